/-
  The plain models of the functions that the law reaches, second part. No condition.
-/
import Derived.Test.YtfeonoiibclkiabGreatDoorYm
import Derived.Lib.Bytealg
import Derived.Lib.Repeat
import Derived.Lib.ItoaNum
set_option linter.all false
namespace Go.Md
open Go.Dn
def strings_Compare (a b:List UInt8):Option (Int×Unit):=some (Lib.compareBytes a b,())
abbrev yV:Type:=(List UInt8)×az
abbrev tD:Type:=Bool×az×(List UInt8)
abbrev BK:Type:=Int×Int×(List UInt8)×az×(List UInt8)×az×Int×(List tD)×(List UInt8)
abbrev L6:Type:=(List UInt8)×(List UInt8)×Int×Int×Int×Bool×(List yV)×(List BK)×(List tD)
abbrev wW:Type:=Int×Int×Int×Unit
abbrev wV:Type:=((Int×Unit) ⊕ (Int×Unit))
def K4 (x1:wW) (again:wW→Option wV):Option wV:=
 bif decide (x1.2.2.1<x1.2.1) then
  again (w64 (x1.1*10),x1.2.1,w64 (x1.2.2.1+1),())
 else
  some (Sum.inr (x1.1,()))
def BG (a0:Int):Option (Int×Unit):=
 aW (β:=(Int×Unit)) (γ:=(Int×Unit)) (
  iter (X:=wW) (β:=wV) (Int.natAbs (1:Int)+(Int.natAbs a0+(Int.natAbs (0:Int)+2))) (1,a0,0,()) (K4)) fun v2=>
 some (v2.1,())
def vW (a0:az) (a1:Int) (a2:Int):Option (Bool×Unit):=
 bif decide (a0.2≤a1) then
  bif decide (a0.1≥0) then
   Option.bind (BG a0.2) fun r1=>
   some (decide (a0.1≤(w64 (a2*r1.1))),())
  else
   some (false,())
 else
  some (false,())
abbrev jr:Type:=Int×Int×Int×(List Int)×Int×Int×(List Int)×Int×Int×Bool×(List Int)×Bool×(List Int)×Bool×(List Int)×(List Int)×Unit
abbrev sI:Type:=(((ai×Unit) ⊕ (Bool×(List Int)×Bool×(List Int)×Bool×(List Int)×(List Int)×Unit)) ⊕ (Int×Int×(List Int)×Int×Int×Bool×(List Int)×Bool×(List Int)×Bool×(List Int)×(List Int)×Unit))
def nk (x1:jr) (again:jr→Option sI):Option sI:=
 bif decide (x1.2.2.2.2.2.2.2.2.1<x1.2.2.2.2.2.2.2.1) then
  Option.bind (idx x1.2.2.2.2.2.2.1 x1.2.2.2.2.2.2.2.2.1) fun y2=>
  chk (decide (0≤(w64 (x1.1+x1.2.2.2.2.2.2.2.2.1)))&&decide ((w64 (x1.1+x1.2.2.2.2.2.2.2.2.1))<(x1.2.2.2.2.2.2.2.2.2.2.2.2.2.2.2.1.length:Int))) <|
  Option.bind (x1.2.2.2.2.2.2.2.2.2.2.2.2.2.2.2.1[(w64 (x1.1+x1.2.2.2.2.2.2.2.2.1)).toNat]?) fun y3=>
  let n4:Int:=bI ((bI y3)+(bI ((bI x1.2.1)*(bI y2))))
  chk (decide (0≤(w64 (x1.1+x1.2.2.2.2.2.2.2.2.1)))&&decide ((w64 (x1.1+x1.2.2.2.2.2.2.2.2.1))<(x1.2.2.2.2.2.2.2.2.2.2.2.2.2.2.2.1.length:Int))) <|
  Option.bind (x1.2.2.2.2.2.2.2.2.2.2.2.2.2.2.2.1[(w64 (x1.1+x1.2.2.2.2.2.2.2.2.1)).toNat]?) fun _=>
  again (x1.1,x1.2.1,Int.fdiv (bI (x1.2.2.1+n4)) (2 ^ 32),x1.2.2.2.1,x1.2.2.2.2.1,x1.2.2.2.2.2.1,x1.2.2.2.2.2.2.1,x1.2.2.2.2.2.2.2.1,w64 (x1.2.2.2.2.2.2.2.2.1+1),x1.2.2.2.2.2.2.2.2.2.1,x1.2.2.2.2.2.2.2.2.2.2.1,x1.2.2.2.2.2.2.2.2.2.2.2.1,x1.2.2.2.2.2.2.2.2.2.2.2.2.1,x1.2.2.2.2.2.2.2.2.2.2.2.2.2.1,x1.2.2.2.2.2.2.2.2.2.2.2.2.2.2.1,List.set x1.2.2.2.2.2.2.2.2.2.2.2.2.2.2.2.1 (w64 (x1.1+x1.2.2.2.2.2.2.2.2.1)).toNat (jJ (bI (x1.2.2.1+n4))),())
 else
  some (Sum.inr (x1.1,x1.2.2.1,x1.2.2.2.1,x1.2.2.2.2.1,x1.2.2.2.2.2.1,x1.2.2.2.2.2.2.2.2.2.1,x1.2.2.2.2.2.2.2.2.2.2.1,x1.2.2.2.2.2.2.2.2.2.2.2.1,x1.2.2.2.2.2.2.2.2.2.2.2.2.1,x1.2.2.2.2.2.2.2.2.2.2.2.2.2.1,x1.2.2.2.2.2.2.2.2.2.2.2.2.2.2.1,x1.2.2.2.2.2.2.2.2.2.2.2.2.2.2.2.1,()))
abbrev jq:Type:=(List Int)×Int×Int×Bool×(List Int)×Bool×(List Int)×Bool×(List Int)×(List Int)×Unit
abbrev sH:Type:=((ai×Unit) ⊕ (Bool×(List Int)×Bool×(List Int)×Bool×(List Int)×(List Int)×Unit))
def nj (x1:jq) (again:jq→Option sH):Option sH:=
 bif decide (x1.2.2.1<x1.2.1) then
  Option.bind (idx x1.1 x1.2.2.1) fun y2=>
  aW (β:=((ai×Unit) ⊕ (Bool×(List Int)×Bool×(List Int)×Bool×(List Int)×(List Int)×Unit))) (γ:=(Int×Int×(List Int)×Int×Int×Bool×(List Int)×Bool×(List Int)×Bool×(List Int)×(List Int)×Unit)) (
   iter (X:=jr) (β:=sI) (x1.2.2.1.natAbs+(Int.natAbs y2+(Int.natAbs (0:Int)+(x1.1.length+(x1.2.1.natAbs+(x1.2.2.1.natAbs+(x1.2.2.2.2.2.2.1.length+(Int.natAbs ((x1.2.2.2.2.2.2.1.length:Int))+(Int.natAbs (0:Int)+(x1.2.2.2.2.1.length+(x1.2.2.2.2.2.2.1.length+(x1.2.2.2.2.2.2.2.2.1.length+(x1.2.2.2.2.2.2.2.2.2.1.length+2))))))))))))) (x1.2.2.1,y2,0,x1.1,x1.2.1,x1.2.2.1,x1.2.2.2.2.2.2.1,(x1.2.2.2.2.2.2.1.length:Int),0,x1.2.2.2.1,x1.2.2.2.2.1,x1.2.2.2.2.2.1,x1.2.2.2.2.2.2.1,x1.2.2.2.2.2.2.2.1,x1.2.2.2.2.2.2.2.2.1,x1.2.2.2.2.2.2.2.2.2.1,()) (nk)) fun v3=>
  chk (decide (0≤(w64 (v3.1+((v3.2.2.2.2.2.2.2.2.1.length:Int)))))&&decide ((w64 (v3.1+((v3.2.2.2.2.2.2.2.2.1.length:Int))))<(v3.2.2.2.2.2.2.2.2.2.2.2.1.length:Int))) <|
  Option.bind (v3.2.2.2.2.2.2.2.2.2.2.2.1[(w64 (v3.1+((v3.2.2.2.2.2.2.2.2.1.length:Int)))).toNat]?) fun _=>
  again (v3.2.2.1,v3.2.2.2.1,w64 (v3.2.2.2.2.1+1),v3.2.2.2.2.2.1,v3.2.2.2.2.2.2.1,v3.2.2.2.2.2.2.2.1,v3.2.2.2.2.2.2.2.2.1,v3.2.2.2.2.2.2.2.2.2.1,v3.2.2.2.2.2.2.2.2.2.2.1,List.set v3.2.2.2.2.2.2.2.2.2.2.2.1 (w64 (v3.1+((v3.2.2.2.2.2.2.2.2.1.length:Int)))).toNat (jJ v3.2.1),())
 else
  some (Sum.inr (x1.2.2.2.1,x1.2.2.2.2.1,x1.2.2.2.2.2.1,x1.2.2.2.2.2.2.1,x1.2.2.2.2.2.2.2.1,x1.2.2.2.2.2.2.2.2.1,x1.2.2.2.2.2.2.2.2.2.1,()))
def ni (a0:ai) (a1:ai):Option (ai×Unit):=
 chk (decide (0≤(w64 (((a0.2.length:Int))+((a1.2.length:Int)))))&&decide ((w64 (((a0.2.length:Int))+((a1.2.length:Int))))≤(w64 (((a0.2.length:Int))+((a1.2.length:Int)))))&&decide ((4:Int)*(w64 (((a0.2.length:Int))+((a1.2.length:Int))))≤281474976710656)&&decide ((w64 (((a0.2.length:Int))+((a1.2.length:Int))))≤9223372036854775807)) <|
 aW (β:=(ai×Unit)) (γ:=(Bool×(List Int)×Bool×(List Int)×Bool×(List Int)×(List Int)×Unit)) (
  iter (X:=jq) (β:=sH) (a0.2.length+(Int.natAbs ((a0.2.length:Int))+(Int.natAbs (0:Int)+(a0.2.length+(a1.2.length+(List.length ([]:List Int)+(List.length ((List.replicate (Int.toNat (w64 (((a0.2.length:Int))+((a1.2.length:Int))))) 0):List Int)+2))))))) (a0.2,(a0.2.length:Int),0,a0.1,a0.2,a1.1,a1.2,false,[],List.replicate (Int.toNat (w64 (((a0.2.length:Int))+((a1.2.length:Int))))) 0,()) (nj)) fun v10=>
 Option.bind (gw (!(v10.1==v10.2.2.1)) v10.2.2.2.2.2.2.1) fun r11=>
 some (r11.1,())
abbrev ov:Type:=Int×Int×Bool×(List Int)×Bool×(List Int)×Unit
abbrev xu:Type:=((ai×Unit) ⊕ (Bool×(List Int)×Bool×(List Int)×Unit))
def sZ (x1:ov) (again:ov→Option xu):Option xu:=
 bif decide (x1.2.1<x1.1) then
  Option.bind (nG 10) fun r2=>
  Option.bind (ni (x1.2.2.2.2.1,x1.2.2.2.2.2.1) r2.1) fun r3=>
  again (x1.1,w64 (x1.2.1+1),x1.2.2.1,x1.2.2.2.1,r3.1.1,r3.1.2,())
 else
  some (Sum.inr (x1.2.2.1,x1.2.2.2.1,x1.2.2.2.2.1,x1.2.2.2.2.2.1,()))
def xH (a0:Int):Option (ai×Unit):=
 Option.bind (nG 1) fun r1=>
 aW (β:=(ai×Unit)) (γ:=(Bool×(List Int)×Bool×(List Int)×Unit)) (
  iter (X:=ov) (β:=xu) (Int.natAbs a0+(Int.natAbs (0:Int)+(List.length ([]:List Int)+(r1.1.2.length+2)))) (a0,0,false,[],r1.1.1,r1.1.2,()) (sZ)) fun v5=>
 some ((v5.2.2.1,v5.2.2.2.1),())
abbrev xy:Type:=(List Int)×(List Int)×Int×(List Int)×Int×Int×Unit
abbrev xw:Type:=(((List Int)×Unit) ⊕ ((List Int)×Int×Unit))
def Lm (x1:xy) (again:xy→Option xw):Option xw:=
 bif decide (x1.2.2.2.2.2.1<x1.2.2.2.2.1) then
  Option.bind (idx x1.2.2.2.1 x1.2.2.2.2.2.1) fun y2=>
  aW (β:=(((List Int)×Unit) ⊕ ((List Int)×Int×Unit))) (γ:=((List Int)×(List Int)×Int×(List Int)×Int×Int×Unit)) (
   bif decide (x1.2.2.2.2.2.1<((x1.1.length:Int))) then
    Option.bind (idx x1.1 x1.2.2.2.2.2.1) fun y3=>
    let n4:Int:=bI ((bI (x1.2.2.1+(bI y2)))+(bI y3))
    some (Sum.inr (x1.1,x1.2.1,n4,x1.2.2.2.1,x1.2.2.2.2.1,x1.2.2.2.2.2.1,()))
   else
    some (Sum.inr (x1.1,x1.2.1,bI (x1.2.2.1+(bI y2)),x1.2.2.2.1,x1.2.2.2.2.1,x1.2.2.2.2.2.1,()))) fun v5=>
  chk (decide (((v5.2.1.length)+1)*4≤140737488355328)&&decide ((v5.2.1.length)+1≤maxLen)) <|
  again (v5.1,v5.2.1++[(jJ v5.2.2.1)],Int.fdiv v5.2.2.1 (2 ^ 32),v5.2.2.2.1,v5.2.2.2.2.1,w64 (v5.2.2.2.2.2.1+1),())
 else
  some (Sum.inr (x1.2.1,x1.2.2.1,()))
def BJ (a0:List Int) (a1:List Int):Option ((List Int)×Unit):=
 aW (β:=((List Int)×Unit)) (γ:=((List Int)×(List Int)×Unit)) (
  bif decide (((List.length a0:Int))<((List.length a1:Int))) then
   some (Sum.inr (a1,a0,()))
  else
   some (Sum.inr (a0,a1,()))) fun v1=>
 chk (decide (0≤(0:Int))&&decide ((0:Int)≤(w64 (((v1.1.length:Int))+1)))&&decide ((4:Int)*(w64 (((v1.1.length:Int))+1))≤281474976710656)&&decide ((w64 (((v1.1.length:Int))+1))≤9223372036854775807)) <|
 aW (β:=((List Int)×Unit)) (γ:=((List Int)×Int×Unit)) (
  iter (X:=xy) (β:=xw) (v1.2.1.length+(List.length ([]:List Int)+(Int.natAbs (0:Int)+(v1.1.length+(Int.natAbs ((v1.1.length:Int))+(Int.natAbs (0:Int)+2)))))) (v1.2.1,[],0,v1.1,(v1.1.length:Int),0,()) (Lm)) fun v7=>
 chk (decide (((v7.1.length)+1)*4≤140737488355328)&&decide ((v7.1.length)+1≤maxLen)) <|
 some (v7.1++[(jJ v7.2.1)],())
def gN (a0:ai) (a1:ai):Option (ai×Unit):=
 bif a0.1==a1.1 then
  Option.bind (BJ a0.2 a1.2) fun r1=>
  Option.bind (gw a0.1 r1.1) fun r2=>
  some (r2.1,())
 else
  Option.bind (qz a0.2 a1.2) fun r3=>
  bif decide (r3.1≥0) then
   Option.bind (s5 a0.2 a1.2) fun r4=>
   Option.bind (gw a0.1 r4.1) fun r5=>
   some (r5.1,())
  else
   Option.bind (s5 a1.2 a0.2) fun r6=>
   Option.bind (gw a1.1 r6.1) fun r7=>
   some (r7.1,())
def Ct (a0:ai) (a1:ai):Option (ai×Unit):=
 Option.bind (nh a1) fun r1=>
 Option.bind (gN a0 r1.1) fun r2=>
 some (r2.1,())
def yR (a0:ai) (a1:ai):Option (Int×Unit):=
 Option.bind (Ct a0 a1) fun r1=>
 Option.bind (iR r1.1) fun r2=>
 some (r2.1,())
def gm (a0:az) (a1:Int):Option (ai×Unit):=
 Option.bind (nG a0.1) fun r1=>
 Option.bind (xH (w64 (a1 - a0.2))) fun r2=>
 Option.bind (ni r1.1 r2.1) fun r3=>
 some (r3.1,())
end Go.Md
namespace Go.Md
open Go.Dn
def RD (n:Nat):List UInt8:=if n<10 then [UInt8.ofNat (48+n)] else [UInt8.ofNat (48+n / 10),UInt8.ofNat (48+n % 10)]
def strconv_Itoa (n:Int):Option (List UInt8×Unit):=bif decide (0≤n)&&decide (n<100) then some (RD n.toNat,()) else bif decide (-9223372036854775808≤n)&&decide (n≤9223372036854775807) then some (Lib.itoa n,()) else none
def strings_Repeat (s:List UInt8) (n:Int):Option (List UInt8×Unit):=bif decide (0≤n)&&(decide (n≤9223372036854775807)&&decide (s.length*n.toNat≤140737488355328)) then some (Lib.repeatL s n.toNat,()) else none
def yF (_a:List UInt8):Option (Int×Unit):=none
def yj (_a:List UInt8):Option (Bool×Unit):=none
def DJ (_a:List UInt8):Option (Bool×Unit):=none
def ED (_a:List UInt8):Option (Bool×Unit):=none
def DK (_a _b:Int):Option (List UInt8×Unit):=none
abbrev bu:Ty:=(.st (.pair .str (.pair .str (.pair .str cz))))
abbrev aj:Type:=(List UInt8)×(List UInt8)×(List UInt8)×az
abbrev bV:Ty:=(.st (.pair .str (.pair .str (.pair cz (.slice bu)))))
abbrev ah:Type:=(List UInt8)×(List UInt8)×az×(List aj)
abbrev bF:Ty:=(.st (.pair .str (.pair .str (.pair tI (.slice bV)))))
abbrev aq:Type:=(List UInt8)×(List UInt8)×Int×(List ah)
abbrev Cv:Type:=Int×az×Int
abbrev tF:Type:=Int×(List UInt8)×(List UInt8)×az×az×Int×az×az×az×az
abbrev Cu:Type:=(List UInt8)×(List UInt8)×az
abbrev aG:Ty:=(.st (.pair .str .str))
abbrev aD:Type:=(List UInt8)×(List UInt8)
def uk (a0:Int):Option (Bool×Unit):=
 Option.bind (kM a0 1 5) fun r1=>
 some (!r1.1,())
def wI (a0:Int):Option ((List Int)×Unit):=
 bif a0==1 then
  some ([8,12,13,14],())
 else
  bif a0==2 then
   some ([13],())
  else
   some ([18],())
abbrev iK:Type:=(List Int)×Int×Int×Int×Unit
abbrev qV:Type:=((Int×Unit) ⊕ Unit)
def lY (x1:iK) (again:iK→Option qV):Option qV:=
 bif decide (x1.2.2.2.1<x1.2.2.1) then
  Option.bind (idx x1.1 x1.2.2.2.1) fun y2=>
  bif x1.2.1==y2 then
   some (Sum.inl (x1.2.2.2.1,()))
  else
   again (x1.1,x1.2.1,x1.2.2.1,w64 (x1.2.2.2.1+1),())
 else
  some (Sum.inr ())
def uW (a0:List Int) (a1:Int):Option (Int×Unit):=
 aW (β:=(Int×Unit)) (γ:=Unit) (
  iter (X:=iK) (β:=qV) (List.length a0+(Int.natAbs a1+(Int.natAbs ((List.length a0:Int))+(Int.natAbs (0:Int)+2)))) (a0,a1,(List.length a0:Int),0,()) (lY)) fun _=>
 some ((-1),())
def iJ (a0:List Int) (a1:Int):Option (Bool×Unit):=
 Option.bind (uW a0 a1) fun r1=>
 some (decide (r1.1≥0),())
abbrev nW:Type:=(List UInt8)×Int×Int×Int×Int×Unit
abbrev wR:Type:=((Bool×Unit) ⊕ Unit)
def sS (x1:nW) (again:nW→Option wR):Option wR:=
 bif decide (x1.2.2.2.2.1<x1.2.2.2.1) then
  Option.bind (yB x1.1 x1.2.2.2.2.1) fun c2=>
  bif decide ((c2.toNat:Int)<x1.2.1) then
   some (Sum.inl (false,()))
  else
   Option.bind (yB x1.1 x1.2.2.2.2.1) fun c3=>
   bif decide ((c3.toNat:Int)>x1.2.2.1) then
    some (Sum.inl (false,()))
   else
    again (x1.1,x1.2.1,x1.2.2.1,x1.2.2.2.1,w64 (x1.2.2.2.2.1+1),())
 else
  some (Sum.inr ())
def BB (a0:List UInt8) (a1:Int) (a2:Int):Option (Bool×Unit):=
 aW (β:=(Bool×Unit)) (γ:=Unit) (
  iter (X:=nW) (β:=wR) (List.length a0+(Int.natAbs a1+(Int.natAbs a2+(Int.natAbs ((List.length a0:Int))+(Int.natAbs (0:Int)+2))))) (a0,a1,a2,(List.length a0:Int),0,()) (sS)) fun _=>
 some (true,())
def rS (a0:List UInt8):Option (Bool×Unit):=
 bif !(a0==[]) then
  Option.bind (BB a0 48 57) fun r1=>
  some (r1.1,())
 else
  some (false,())
abbrev vF:Type:=(List UInt8)×Int×Int×Int×Unit
abbrev vD:Type:=((Bool×Unit) ⊕ (Int×Unit))
def IW (x1:vF) (again:vF→Option vD):Option vD:=
 bif decide (x1.2.2.2.1<x1.2.2.1) then
  let n2:Int:=w64 ((w64 (((x1.1.length:Int)) - 1)) - x1.2.2.2.1)
  Option.bind (yB x1.1 n2) fun c3=>
  bif (Int.tmod x1.2.2.2.1 2)==1 then
   let n4:Int:=w64 ((w64 (wu8 ((c3.toNat:Int) - 48)))*3)
   again (x1.1,w64 (x1.2.1+n4),x1.2.2.1,w64 (x1.2.2.2.1+1),())
  else
   let n5:Int:=w64 (x1.2.1+(w64 (wu8 ((c3.toNat:Int) - 48))))
   again (x1.1,n5,x1.2.2.1,w64 (x1.2.2.2.1+1),())
 else
  some (Sum.inr (x1.2.1,()))
def zO (a0:List UInt8):Option (Bool×Unit):=
 aW (β:=(Bool×Unit)) (γ:=(Int×Unit)) (
  iter (X:=vF) (β:=vD) (List.length a0+(Int.natAbs (0:Int)+(Int.natAbs ((List.length a0:Int))+(Int.natAbs (0:Int)+2)))) (a0,0,(List.length a0:Int),0,()) (IW)) fun v6=>
 some ((Int.tmod v6.1 10)==0,())
def rq (a0:Int) (a1:List UInt8):Option (Bool×Unit):=
 bif a0==4 then
  Option.bind (yj a1) fun r1=>
  some (r1.1,())
 else
  bif a0==5 then
   Option.bind (ED a1) fun r2=>
   some (r2.1,())
  else
   Option.bind (wI a0) fun r3=>
   Option.bind (iJ r3.1 ((List.length a1:Int))) fun r4=>
   bif r4.1 then
    Option.bind (rS a1) fun r5=>
    bif r5.1 then
     Option.bind (zO a1) fun r6=>
     some (r6.1,())
    else
     some (false,())
   else
    some (false,())
def vB (a0:Int) (a1:List UInt8):Option (Bool×Int×Unit):=
 Option.bind (uk a0) fun r1=>
 bif !r1.1 then
  some (false,4,())
 else
  Option.bind (rq a0 a1) fun r2=>
  some (r2.1,0,())
def oq (a0:List UInt8):Option (Bool×Unit):=
 Option.bind (vB 3 a0) fun r1=>
 some (r1.1,())
def cQ (a0:az) (a1:Bool):Option (Int×Unit):=
 Option.bind (iF a0) fun r1=>
 bif r1.1 != 0 then
  some (r1.1,())
 else
  Option.bind (vW a0 3 1000000000) fun r2=>
  bif !r2.1 then
   some (1,())
  else
   bif a0.1==0 then
    bif !a1 then
     some (1,())
    else
     some (0,())
   else
    some (0,())
abbrev uu:Type:=Int×(List Int)×Int×Int×Unit
abbrev yo:Type:=((Int×Unit) ⊕ (Int×Unit))
def ur (x1:uu) (again:uu→Option yo):Option yo:=
 bif decide (x1.2.2.2.1<x1.2.2.1) then
  Option.bind (idx x1.2.1 x1.2.2.2.1) fun y2=>
  bif y2 != x1.1 then
   some (Sum.inl (y2,()))
  else
   again (x1.1,x1.2.1,x1.2.2.1,w64 (x1.2.2.2.1+1),())
 else
  some (Sum.inr (x1.1,()))
def vG (a0:List Int):Option (Int×Unit):=
 aW (β:=(Int×Unit)) (γ:=(Int×Unit)) (
  iter (X:=uu) (β:=yo) (Int.natAbs (0:Int)+(List.length a0+(Int.natAbs ((List.length a0:Int))+(Int.natAbs (0:Int)+2)))) (0,a0,(List.length a0:Int),0,()) (ur)) fun v3=>
 some (v3.1,())
def dD (a0:aj) (a1:aj):Option (Int×Unit):=
 Option.bind (strings_Compare a0.1 a1.1) fun r1=>
 Option.bind (strings_Compare a0.2.1 a1.2.1) fun r2=>
 Option.bind (strings_Compare a0.2.2.1 a1.2.2.1) fun r3=>
 Option.bind (vG [r1.1,r2.1,r3.1]) fun r4=>
 some (r4.1,())
abbrev iB:Type:=(List aj)×(List aj)×Int×Int×Unit
abbrev mg:Type:=((Int×Unit) ⊕ Unit)
def iA (x1:iB) (again:iB→Option mg):Option mg:=
 bif decide (x1.2.2.2.1<x1.2.2.1) then
  Option.bind (idx x1.2.1 x1.2.2.2.1) fun y2=>
  Option.bind (gp y2.1) fun r3=>
  bif !r3.1 then
   some (Sum.inl (5,()))
  else
   Option.bind (gp y2.2.1) fun r4=>
   bif !r4.1 then
    some (Sum.inl (5,()))
   else
    bif !(y2.2.2.1==[]) then
     Option.bind (gp y2.2.2.1) fun r5=>
     bif !r5.1 then
      some (Sum.inl (5,()))
     else
      bif decide (x1.2.2.2.1>0) then
       Option.bind (idx x1.1 (w64 (x1.2.2.2.1 - 1))) fun y6=>
       Option.bind (dD y6 y2) fun r7=>
       bif decide (r7.1≥0) then
        some (Sum.inl (8,()))
       else
        Option.bind (cQ y2.2.2.2 false) fun r8=>
        bif r8.1 != 0 then
         some (Sum.inl (r8.1,()))
        else
         again (x1.1,x1.2.1,x1.2.2.1,w64 (x1.2.2.2.1+1),())
      else
       Option.bind (cQ y2.2.2.2 false) fun r9=>
       bif r9.1 != 0 then
        some (Sum.inl (r9.1,()))
       else
        again (x1.1,x1.2.1,x1.2.2.1,w64 (x1.2.2.2.1+1),())
    else
     bif decide (x1.2.2.2.1>0) then
      Option.bind (idx x1.1 (w64 (x1.2.2.2.1 - 1))) fun y10=>
      Option.bind (dD y10 y2) fun r11=>
      bif decide (r11.1≥0) then
       some (Sum.inl (8,()))
      else
       Option.bind (cQ y2.2.2.2 false) fun r12=>
       bif r12.1 != 0 then
        some (Sum.inl (r12.1,()))
       else
        again (x1.1,x1.2.1,x1.2.2.1,w64 (x1.2.2.2.1+1),())
     else
      Option.bind (cQ y2.2.2.2 false) fun r13=>
      bif r13.1 != 0 then
       some (Sum.inl (r13.1,()))
      else
       again (x1.1,x1.2.1,x1.2.2.1,w64 (x1.2.2.2.1+1),())
 else
  some (Sum.inr ())
def fP (a0:List aj):Option (Int×Unit):=
 bif decide (((List.length a0:Int))>100) then
  some (2,())
 else
  aW (β:=(Int×Unit)) (γ:=Unit) (
   iter (X:=iB) (β:=mg) (List.length a0+(List.length a0+(Int.natAbs ((List.length a0:Int))+(Int.natAbs (0:Int)+2)))) (a0,a0,(List.length a0:Int),0,()) (iA)) fun _=>
  some (0,())
def mU (a0:List ah) (a1:Int):Option (Int×Unit):=
 Option.bind (idx a0 a1) fun y1=>
 Option.bind (oq y1.1) fun r2=>
 bif !r2.1 then
  some (3,())
 else
  bif decide (a1>0) then
   Option.bind (idx a0 (w64 (a1 - 1))) fun y3=>
   bif Op.bytesLess y1.1 y3.1||y1.1==y3.1 then
    some (8,())
   else
    Option.bind (cQ y1.2.2.1 true) fun r4=>
    bif r4.1 != 0 then
     some (r4.1,())
    else
     Option.bind (fP y1.2.2.2) fun r5=>
     some (r5.1,())
  else
   Option.bind (cQ y1.2.2.1 true) fun r6=>
   bif r6.1 != 0 then
    some (r6.1,())
   else
    Option.bind (fP y1.2.2.2) fun r7=>
    some (r7.1,())
def tg (a0:ah) (a1:List UInt8):Option (Int×Unit):=
 Option.bind (strings_Compare a0.1 a1) fun r1=>
 some (r1.1,())
abbrev bO:Type:=(List ah)×(List UInt8)×Unit×Int×Int×Int×Unit
abbrev dG:Type:=((Int×Bool×Unit) ⊕ ((List ah)×(List UInt8)×Unit×Int×Int×Unit))
def dF (x1:bO) (again:bO→Option dG):Option dG:=
 bif decide (x1.2.2.2.2.1<x1.2.2.2.2.2.1) then
  let n2:Int:=w64 (Int.fdiv (bI (w64 (x1.2.2.2.2.1+x1.2.2.2.2.2.1))) (2 ^ 1))
  Option.bind (idx x1.1 n2) fun y3=>
  Option.bind (tg y3 x1.2.1) fun r4=>
  bif decide (r4.1<0) then
   again (x1.1,x1.2.1,x1.2.2.1,x1.2.2.2.1,w64 (n2+1),x1.2.2.2.2.2.1,())
  else
   again (x1.1,x1.2.1,x1.2.2.1,x1.2.2.2.1,x1.2.2.2.2.1,n2,())
 else
  some (Sum.inr (x1.1,x1.2.1,x1.2.2.1,x1.2.2.2.1,x1.2.2.2.2.1,()))
def cA (a0:List ah) (a1:List UInt8) (a2:Unit):Option (Int×Bool×Unit):=
 aW (β:=(Int×Bool×Unit)) (γ:=((List ah)×(List UInt8)×Unit×Int×Int×Unit)) (
  iter (X:=bO) (β:=dG) (List.length a0+(List.length a1+(Int.natAbs ((List.length a0:Int))+(Int.natAbs (0:Int)+(Int.natAbs ((List.length a0:Int))+2))))) (a0,a1,a2,(List.length a0:Int),0,(List.length a0:Int),()) (dF)) fun v5=>
 bif decide (v5.2.2.2.2.1<v5.2.2.2.1) then
  Option.bind (idx v5.1 v5.2.2.2.2.1) fun y6=>
  Option.bind (tg y6 v5.2.1) fun r7=>
  some (v5.2.2.2.2.1,r7.1==0,())
 else
  some (v5.2.2.2.2.1,false,())
def fU (a0:aq) (a1:List UInt8):Option (Int×Bool×Unit):=
 Option.bind (cA a0.2.2.2 a1 ()) fun r1=>
 some (r1.1,r1.2.1,())
abbrev iM:Type:=Int×(List Int)×Int×(List UInt8)×(List UInt8)×Int×(List ah)×Unit
abbrev gA:Type:=(((List Int)×Bool×Unit) ⊕ ((List Int)×Unit))
def pH (x1:iM) (again:iM→Option gA):Option gA:=
 Option.bind (idx x1.2.2.2.2.2.2.1 x1.2.2.1) fun y2=>
 bif !(y2.2.1==[]) then
  Option.bind (idx x1.2.2.2.2.2.2.1 x1.2.2.1) fun y3=>
  Option.bind (fU (x1.2.2.2.1,x1.2.2.2.2.1,x1.2.2.2.2.2.1,x1.2.2.2.2.2.2.1) y3.2.1) fun r4=>
  bif r4.1==x1.1 then
   some (Sum.inl ([],false,()))
  else
   Option.bind (iJ x1.2.1 r4.1) fun r5=>
   bif r5.1 then
    some (Sum.inl (x1.2.1,true,()))
   else
    chk (decide (((x1.2.1.length)+1)*8≤140737488355328)&&decide ((x1.2.1.length)+1≤maxLen)) <|
    again (x1.1,x1.2.1++[r4.1],r4.1,x1.2.2.2.1,x1.2.2.2.2.1,x1.2.2.2.2.2.1,x1.2.2.2.2.2.2.1,())
 else
  some (Sum.inr (x1.2.1,()))
def gq (a0:aq) (a1:Int):Option ((List Int)×Bool×Unit):=
 aW (β:=((List Int)×Bool×Unit)) (γ:=((List Int)×Unit)) (
  iter (X:=iM) (β:=gA) (Int.natAbs a1+(List.length ([]:List Int)+(Int.natAbs a1+(a0.1.length+(a0.2.1.length+(a0.2.2.1.natAbs+(a0.2.2.2.length+2))))))) (a1,[],a1,a0.1,a0.2.1,a0.2.2.1,a0.2.2.2,()) (pH)) fun v6=>
 some (v6.1,true,())
abbrev lT:Type:=(List ah)×Int×Int×(List UInt8)×(List UInt8)×Int×(List ah)×Unit
abbrev qS:Type:=((Int×Unit) ⊕ ((List UInt8)×(List UInt8)×Int×(List ah)×Unit))
def lR (x1:lT) (again:lT→Option qS):Option qS:=
 bif decide (x1.2.2.1<x1.2.1) then
  Option.bind (idx x1.1 x1.2.2.1) fun y2=>
  Option.bind (fU (x1.2.2.2.1,x1.2.2.2.2.1,x1.2.2.2.2.2.1,x1.2.2.2.2.2.2.1) y2.2.1) fun r3=>
  bif !(y2.2.1==[]) then
   bif !r3.2.1 then
    some (Sum.inl (9,()))
   else
    again (x1.1,x1.2.1,w64 (x1.2.2.1+1),x1.2.2.2.1,x1.2.2.2.2.1,x1.2.2.2.2.2.1,x1.2.2.2.2.2.2.1,())
  else
   again (x1.1,x1.2.1,w64 (x1.2.2.1+1),x1.2.2.2.1,x1.2.2.2.2.1,x1.2.2.2.2.2.1,x1.2.2.2.2.2.2.1,())
 else
  some (Sum.inr (x1.2.2.2.1,x1.2.2.2.2.1,x1.2.2.2.2.2.1,x1.2.2.2.2.2.2.1,()))
abbrev lU:Type:=Int×Int×(List UInt8)×(List UInt8)×Int×(List ah)×Unit
abbrev qT:Type:=((Int×Unit) ⊕ ((List UInt8)×(List UInt8)×Int×(List ah)×Unit))
def lS (x1:lU) (again:lU→Option qT):Option qT:=
 bif decide (x1.2.1<x1.1) then
  Option.bind (gq (x1.2.2.1,x1.2.2.2.1,x1.2.2.2.2.1,x1.2.2.2.2.2.1) x1.2.1) fun r2=>
  bif !r2.2.1 then
   some (Sum.inl (17,()))
  else
   again (x1.1,w64 (x1.2.1+1),x1.2.2.1,x1.2.2.2.1,x1.2.2.2.2.1,x1.2.2.2.2.2.1,())
 else
  some (Sum.inr (x1.2.2.1,x1.2.2.2.1,x1.2.2.2.2.1,x1.2.2.2.2.2.1,()))
abbrev ko:Type:=Int×Int×(List UInt8)×(List UInt8)×Int×(List ah)×Unit
abbrev pJ:Type:=((Int×Unit) ⊕ Unit)
def kj (x1:ko) (again:ko→Option pJ):Option pJ:=
 bif decide (x1.2.1<x1.1) then
  Option.bind (gq (x1.2.2.1,x1.2.2.2.1,x1.2.2.2.2.1,x1.2.2.2.2.2.1) x1.2.1) fun r2=>
  bif decide (((r2.1.length:Int))>5) then
   some (Sum.inl (2,()))
  else
   again (x1.1,w64 (x1.2.1+1),x1.2.2.1,x1.2.2.2.1,x1.2.2.2.2.1,x1.2.2.2.2.2.1,())
 else
  some (Sum.inr ())
def pI (a0:aq):Option (Int×Unit):=
 aW (β:=(Int×Unit)) (γ:=((List UInt8)×(List UInt8)×Int×(List ah)×Unit)) (
  iter (X:=lT) (β:=qS) (a0.2.2.2.length+(Int.natAbs ((a0.2.2.2.length:Int))+(Int.natAbs (0:Int)+(a0.1.length+(a0.2.1.length+(a0.2.2.1.natAbs+(a0.2.2.2.length+2))))))) (a0.2.2.2,(a0.2.2.2.length:Int),0,a0.1,a0.2.1,a0.2.2.1,a0.2.2.2,()) (lR)) fun v4=>
 aW (β:=(Int×Unit)) (γ:=((List UInt8)×(List UInt8)×Int×(List ah)×Unit)) (
  iter (X:=lU) (β:=qT) (Int.natAbs ((v4.2.2.2.1.length:Int))+(Int.natAbs (0:Int)+(v4.1.length+(v4.2.1.length+(v4.2.2.1.natAbs+(v4.2.2.2.1.length+2)))))) ((v4.2.2.2.1.length:Int),0,v4.1,v4.2.1,v4.2.2.1,v4.2.2.2.1,()) (lS)) fun v7=>
 aW (β:=(Int×Unit)) (γ:=Unit) (
  iter (X:=ko) (β:=pJ) (Int.natAbs ((v7.2.2.2.1.length:Int))+(Int.natAbs (0:Int)+(v7.1.length+(v7.2.1.length+(v7.2.2.1.natAbs+(v7.2.2.2.1.length+2)))))) ((v7.2.2.2.1.length:Int),0,v7.1,v7.2.1,v7.2.2.1,v7.2.2.2.1,()) (kj)) fun _=>
 some (0,())
abbrev jx:Type:=Int×Int×(List UInt8)×(List UInt8)×Int×(List ah)×Unit
abbrev og:Type:=((Int×Unit) ⊕ ((List UInt8)×(List UInt8)×Int×(List ah)×Unit))
def jw (x1:jx) (again:jx→Option og):Option og:=
 bif decide (x1.2.1<x1.1) then
  Option.bind (mU x1.2.2.2.2.2.1 x1.2.1) fun r2=>
  bif r2.1 != 0 then
   some (Sum.inl (r2.1,()))
  else
   again (x1.1,w64 (x1.2.1+1),x1.2.2.1,x1.2.2.2.1,x1.2.2.2.2.1,x1.2.2.2.2.2.1,())
 else
  some (Sum.inr (x1.2.2.1,x1.2.2.2.1,x1.2.2.2.2.1,x1.2.2.2.2.2.1,()))
def gI (a0:aq):Option (Int×Unit):=
 Option.bind (gp a0.1) fun r1=>
 bif !r1.1 then
  some (5,())
 else
  Option.bind (gp a0.2.1) fun r2=>
  bif !r2.1 then
   some (5,())
  else
   Option.bind (Ba a0.2.2.1) fun r3=>
   bif !r3.1 then
    some (1,())
   else
    bif decide (((a0.2.2.2.length:Int))>500) then
     some (2,())
    else
     aW (β:=(Int×Unit)) (γ:=((List UInt8)×(List UInt8)×Int×(List ah)×Unit)) (
      iter (X:=jx) (β:=og) (Int.natAbs ((a0.2.2.2.length:Int))+(Int.natAbs (0:Int)+(a0.1.length+(a0.2.1.length+(a0.2.2.1.natAbs+(a0.2.2.2.length+2)))))) ((a0.2.2.2.length:Int),0,a0.1,a0.2.1,a0.2.2.1,a0.2.2.2,()) (jw)) fun v6=>
     Option.bind (pI (v6.1,v6.2.1,v6.2.2.1,v6.2.2.2.1)) fun r7=>
     some (r7.1,())
def jU (a0:aq) (a1:List UInt8) (a2:Bool):Option (Int×Unit):=
 Option.bind (gI a0) fun r1=>
 bif r1.1 != 0 then
  some (r1.1,())
 else
  Option.bind (fU a0 a1) fun r2=>
  bif !r2.2.1 then
   bif a2 then
    bif !(a1==[]) then
     some (9,())
    else
     some (0,())
   else
    some (9,())
  else
   some (0,())
def td (a0:Int) (a1:aq) (a2:List UInt8):Option (Bool×Unit):=
 Option.bind (idx a1.2.2.2 a0) fun y1=>
 some (y1.1==a2,())
abbrev fS:Type:=(List Int)×(aq×(List UInt8))×Int×Int×Unit
abbrev mj:Type:=((Int×Unit) ⊕ Unit)
def iC (x1:fS) (again:fS→Option mj):Option mj:=
 bif decide (x1.2.2.2.1<x1.2.2.1) then
  Option.bind (idx x1.1 x1.2.2.2.1) fun y2=>
  Option.bind (td y2 x1.2.1.1 x1.2.1.2) fun r3=>
  bif r3.1 then
   some (Sum.inl (x1.2.2.2.1,()))
  else
   again (x1.1,x1.2.1,x1.2.2.1,w64 (x1.2.2.2.1+1),())
 else
  some (Sum.inr ())
def pN (a0:List Int) (a1:aq×(List UInt8)):Option (Int×Unit):=
 aW (β:=(Int×Unit)) (γ:=Unit) (
  iter (X:=fS) (β:=mj) (List.length a0+(Int.natAbs ((List.length a0:Int))+(Int.natAbs (0:Int)+2))) (a0,a1,(List.length a0:Int),0,()) (iC)) fun _=>
 some ((-1),())
def mh (a0:List Int) (a1:aq×(List UInt8)):Option (Bool×Unit):=
 Option.bind (pN a0 a1) fun r1=>
 some (decide (r1.1≥0),())
def rC (a0:aq) (a1:Int) (a2:List UInt8):Option (Bool×Unit):=
 Option.bind (gq a0 a1) fun r1=>
 Option.bind (mh r1.1 (a0,a2)) fun r2=>
 some (r2.1,())
abbrev se:Type:=(List UInt8)×Int×Int×Int×Unit
abbrev Av:Type:=((Bool×Unit) ⊕ (Int×Unit))
def we (x1:se) (again:se→Option Av):Option Av:=
 bif decide (x1.2.2.2.1<x1.2.2.1) then
  let n2:Int:=w64 ((w64 (((x1.1.length:Int)) - 1)) - x1.2.2.2.1)
  Option.bind (yB x1.1 n2) fun c3=>
  bif (Int.tmod x1.2.2.2.1 2)==1 then
   let n4:Int:=w64 ((w64 (wu8 ((c3.toNat:Int) - 48)))*3)
   again (x1.1,w64 (x1.2.1+n4),x1.2.2.1,w64 (x1.2.2.2.1+1),())
  else
   let n5:Int:=w64 (x1.2.1+(w64 (wu8 ((c3.toNat:Int) - 48))))
   again (x1.1,n5,x1.2.2.1,w64 (x1.2.2.2.1+1),())
 else
  some (Sum.inr (x1.2.1,()))
def FX (a0:List UInt8):Option (Bool×Unit):=
 aW (β:=(Bool×Unit)) (γ:=(Int×Unit)) (
  iter (X:=se) (β:=Av) (List.length a0+(Int.natAbs (0:Int)+(Int.natAbs ((List.length a0:Int))+(Int.natAbs (0:Int)+2)))) (a0,0,(List.length a0:Int),0,()) (we)) fun v6=>
 some ((Int.tmod v6.1 10)==0,())
abbrev w5:Type:=Int×Int×Int×Unit
abbrev wZ:Type:=((Int×Bool×Unit) ⊕ (Int×Unit))
def K8 (x1:w5) (again:w5→Option wZ):Option wZ:=
 bif decide (x1.2.2.1<x1.2.1) then
  again (w64 (x1.1*10),x1.2.1,w64 (x1.2.2.1+1),())
 else
  some (Sum.inr (x1.1,()))
def HC (a0:List UInt8):Option (Int×Bool×Unit):=
 bif decide (((List.length a0:Int))>15) then
  some (0,false,())
 else
  Option.bind (rS a0) fun r1=>
  bif !r1.1 then
   some (0,false,())
  else
   aW (β:=(Int×Bool×Unit)) (γ:=(Int×Unit)) (
    iter (X:=w5) (β:=wZ) (Int.natAbs (1:Int)+(Int.natAbs (w64 (17 - ((List.length a0:Int))))+(Int.natAbs (0:Int)+2))) (1,w64 (17 - ((List.length a0:Int))),0,()) (K8)) fun v3=>
   some (v3.1,true,())
abbrev oN:Type:=Int×(List UInt8)×Int×Unit
abbrev oM:Type:=(((List UInt8)×Int×Unit) ⊕ Unit)
def Cw (x1:oN) (again:oN→Option oM):Option oM:=
 bif decide (x1.2.2.1<10) then
  Option.bind (strconv_Itoa x1.2.2.1) fun r2=>
  chk (decide (x1.2.1.length+r2.1.length≤maxLen)) <|
  Option.bind (rq x1.1 (x1.2.1++r2.1)) fun r3=>
  bif r3.1 then
   some (Sum.inl (x1.2.1++r2.1,0,()))
  else
   again (x1.1,x1.2.1,w64 (x1.2.2.1+1),())
 else
  some (Sum.inr ())
def zN (a0:Int) (a1:List UInt8):Option ((List UInt8)×Int×Unit):=
 Option.bind (uk a0) fun r1=>
 bif !r1.1 then
  some ([],4,())
 else
  bif decide (((List.length a1:Int))>34) then
   some ([],3,())
  else
   bif a0==4 then
    bif decide (((List.length a1:Int))<2) then
     some ([],3,())
    else
     Option.bind (DJ a1) fun r2=>
     bif !r2.1 then
      some ([],3,())
     else
      bif decide (((List.length a1:Int))<13) then
       some ([],3,())
      else
       chk (decide (0≤(0:Int))&&decide ((0:Int)≤2)&&decide (2≤(List.length a1:Int))) <|
       chk (decide (List.length (List.drop 0 (List.take (Int.toNat 2) a1))+List.length [48,48]≤maxLen)) <|
       chk (decide (0≤(2:Int))&&decide ((2:Int)≤((List.length a1:Int)))&&decide (((List.length a1:Int))≤(List.length a1:Int))) <|
       chk (decide (List.length ((List.drop 0 (List.take (Int.toNat 2) a1))++[48,48])+List.length (List.drop 2 (List.take (Int.toNat ((List.length a1:Int))) a1))≤maxLen)) <|
       Option.bind (yF (((List.drop 0 (List.take (Int.toNat 2) a1))++[48,48])++(List.drop 2 (List.take (Int.toNat ((List.length a1:Int))) a1)))) fun r3=>
       chk (decide (0≤(0:Int))&&decide ((0:Int)≤2)&&decide (2≤(List.length a1:Int))) <|
       Option.bind (DK (w64 (98 - r3.1)) 2) fun r4=>
       chk (decide (List.length (List.drop 0 (List.take (Int.toNat 2) a1))+r4.1.length≤maxLen)) <|
       chk (decide (0≤(2:Int))&&decide ((2:Int)≤((List.length a1:Int)))&&decide (((List.length a1:Int))≤(List.length a1:Int))) <|
       chk (decide (List.length ((List.drop 0 (List.take (Int.toNat 2) a1))++r4.1)+List.length (List.drop 2 (List.take (Int.toNat ((List.length a1:Int))) a1))≤maxLen)) <|
       Option.bind (yj (((List.drop 0 (List.take (Int.toNat 2) a1))++r4.1)++(List.drop 2 (List.take (Int.toNat ((List.length a1:Int))) a1)))) fun r5=>
       bif !r5.1 then
        some ([],3,())
       else
        some (((List.drop 0 (List.take (Int.toNat 2) a1))++r4.1)++(List.drop 2 (List.take (Int.toNat ((List.length a1:Int))) a1)),0,())
   else
    aW (β:=((List UInt8)×Int×Unit)) (γ:=Unit) (
     iter (X:=oN) (β:=oM) (Int.natAbs a0+(List.length a1+(Int.natAbs (0:Int)+2))) (a0,a1,0,()) (Cw)) fun _=>
    some ([],3,())
def Cd (a0:List UInt8) (a1:Int):Option ((List UInt8)×Int×Unit):=
 Option.bind (HC a0) fun r1=>
 bif !r1.2.1 then
  some ([],3,())
 else
  Option.bind (kM a1 0 (w64 (r1.1 - 1))) fun r2=>
  bif r2.1 then
   some ([],1,())
  else
   Option.bind (strconv_Itoa a1) fun r3=>
   let n4:Int:=w64 ((w64 (17 - ((List.length a0:Int)))) - ((r3.1.length:Int)))
   Option.bind (strings_Repeat [48] n4) fun r5=>
   chk (decide (List.length a0+r5.1.length≤maxLen)) <|
   chk (decide (List.length (a0++r5.1)+r3.1.length≤maxLen)) <|
   Option.bind (zN 3 ((a0++r5.1)++r3.1)) fun r6=>
   some (r6.1,r6.2.1,())
def Bb:Option (Bool×Unit):=
 Option.bind (Cd [51,52,48,49,50,51,52,53] 1) fun r1=>
 bif r1.2.1==0 then
  some (r1.1==[51,52,48,49,50,51,52,53,48,48,48,48,48,48,48,48,49,55],())
 else
  some (false,())
end Go.Md
namespace Go.Md
open Go.Dn
def iN (a0:aq) (a1:Int) (a2:List UInt8):Option (Bool×Unit):=
 bif a2==[] then
  some (true,())
 else
  Option.bind (idx a0.2.2.2 a1) fun y1=>
  bif y1.1==a2 then
   some (true,())
  else
   Option.bind (rC a0 a1 a2) fun r2=>
   some (r2.1,())
end Go.Md
namespace Go.Md
open Go.Dn
def vC (a0:az):Option (ai×Unit):=
 Option.bind (gm a0 9) fun r1=>
 some (r1.1,())
def xF (a0:ai):Option (az×Int×Unit):=
 Option.bind (uj a0 9) fun r1=>
 some (r1.1,r1.2.1,())
end Go.Md
