/-
  The plain models of the functions that the law reaches, second part. No condition.
-/
import Derived.Test.YtbjhpnieokphbaaGreatDoorYm
import Derived.Lib.Bytealg
import Derived.Lib.Repeat
import Derived.Lib.ItoaNum
set_option linter.all false
namespace Go.Md
open Go.Dn
def strings_Compare (a b:List UInt8):Option (Int×Unit):=some (Lib.compareBytes a b,())
abbrev wo:Type:=(List UInt8)×ai
abbrev qi:Type:=Bool×ai×(List UInt8)
abbrev zC:Type:=Int×Int×(List UInt8)×ai×(List UInt8)×ai×Int×(List qi)×(List UInt8)
abbrev Kk:Type:=(List UInt8)×(List UInt8)×Int×Int×Int×Bool×(List wo)×(List zC)×(List qi)
abbrev tO:Type:=Int×Int×Int×Unit
abbrev tN:Type:=((Int×Unit) ⊕ (Int×Unit))
def I5 (x1:tO) (again:tO→Option tN):Option tN:=
 bif decide (x1.2.2.1<x1.2.1) then
  again (w64 (x1.1*10),x1.2.1,w64 (x1.2.2.1+1),())
 else
  some (Sum.inr (x1.1,()))
def zm (a0:Int):Option (Int×Unit):=
 bw (β:=(Int×Unit)) (γ:=(Int×Unit)) (
  iter (X:=tO) (β:=tN) (Int.natAbs (1:Int)+(Int.natAbs a0+(Int.natAbs (0:Int)+2))) (1,a0,0,()) (I5)) fun v2=>
 some (v2.1,())
def sK (a0:ai) (a1:Int) (a2:Int):Option (Bool×Unit):=
 bif decide (a0.2≤a1) then
  bif decide (a0.1≥0) then
   Option.bind (zm a0.2) fun r1=>
   some (decide (a0.1≤(w64 (a2*r1.1))),())
  else
   some (false,())
 else
  some (false,())
abbrev gG:Type:=Int×Int×Int×(List Int)×Int×Int×(List Int)×Int×Int×Bool×(List Int)×Bool×(List Int)×Bool×(List Int)×(List Int)×Unit
abbrev oT:Type:=(((au×Unit) ⊕ (Bool×(List Int)×Bool×(List Int)×Bool×(List Int)×(List Int)×Unit)) ⊕ (Int×Int×(List Int)×Int×Int×Bool×(List Int)×Bool×(List Int)×Bool×(List Int)×(List Int)×Unit))
def kD (x1:gG) (again:gG→Option oT):Option oT:=
 bif decide (x1.2.2.2.2.2.2.2.2.1<x1.2.2.2.2.2.2.2.1) then
  Option.bind (idx x1.2.2.2.2.2.2.1 x1.2.2.2.2.2.2.2.2.1) fun y2=>
  chk (decide (0≤(w64 (x1.1+x1.2.2.2.2.2.2.2.2.1)))&&decide ((w64 (x1.1+x1.2.2.2.2.2.2.2.2.1))<(x1.2.2.2.2.2.2.2.2.2.2.2.2.2.2.2.1.length:Int))) <|
  Option.bind (x1.2.2.2.2.2.2.2.2.2.2.2.2.2.2.2.1[(w64 (x1.1+x1.2.2.2.2.2.2.2.2.1)).toNat]?) fun y3=>
  let n4:Int:=bL ((bL y3)+(bL ((bL x1.2.1)*(bL y2))))
  chk (decide (0≤(w64 (x1.1+x1.2.2.2.2.2.2.2.2.1)))&&decide ((w64 (x1.1+x1.2.2.2.2.2.2.2.2.1))<(x1.2.2.2.2.2.2.2.2.2.2.2.2.2.2.2.1.length:Int))) <|
  Option.bind (x1.2.2.2.2.2.2.2.2.2.2.2.2.2.2.2.1[(w64 (x1.1+x1.2.2.2.2.2.2.2.2.1)).toNat]?) fun _=>
  again (x1.1,x1.2.1,Int.fdiv (bL (x1.2.2.1+n4)) (2 ^ 32),x1.2.2.2.1,x1.2.2.2.2.1,x1.2.2.2.2.2.1,x1.2.2.2.2.2.2.1,x1.2.2.2.2.2.2.2.1,w64 (x1.2.2.2.2.2.2.2.2.1+1),x1.2.2.2.2.2.2.2.2.2.1,x1.2.2.2.2.2.2.2.2.2.2.1,x1.2.2.2.2.2.2.2.2.2.2.2.1,x1.2.2.2.2.2.2.2.2.2.2.2.2.1,x1.2.2.2.2.2.2.2.2.2.2.2.2.2.1,x1.2.2.2.2.2.2.2.2.2.2.2.2.2.2.1,List.set x1.2.2.2.2.2.2.2.2.2.2.2.2.2.2.2.1 (w64 (x1.1+x1.2.2.2.2.2.2.2.2.1)).toNat (gY (bL (x1.2.2.1+n4))),())
 else
  some (Sum.inr (x1.1,x1.2.2.1,x1.2.2.2.1,x1.2.2.2.2.1,x1.2.2.2.2.2.1,x1.2.2.2.2.2.2.2.2.2.1,x1.2.2.2.2.2.2.2.2.2.2.1,x1.2.2.2.2.2.2.2.2.2.2.2.1,x1.2.2.2.2.2.2.2.2.2.2.2.2.1,x1.2.2.2.2.2.2.2.2.2.2.2.2.2.1,x1.2.2.2.2.2.2.2.2.2.2.2.2.2.2.1,x1.2.2.2.2.2.2.2.2.2.2.2.2.2.2.2.1,()))
abbrev gE:Type:=(List Int)×Int×Int×Bool×(List Int)×Bool×(List Int)×Bool×(List Int)×(List Int)×Unit
abbrev oS:Type:=((au×Unit) ⊕ (Bool×(List Int)×Bool×(List Int)×Bool×(List Int)×(List Int)×Unit))
def kC (x1:gE) (again:gE→Option oS):Option oS:=
 bif decide (x1.2.2.1<x1.2.1) then
  Option.bind (idx x1.1 x1.2.2.1) fun y2=>
  bw (β:=((au×Unit) ⊕ (Bool×(List Int)×Bool×(List Int)×Bool×(List Int)×(List Int)×Unit))) (γ:=(Int×Int×(List Int)×Int×Int×Bool×(List Int)×Bool×(List Int)×Bool×(List Int)×(List Int)×Unit)) (
   iter (X:=gG) (β:=oT) (x1.2.2.1.natAbs+(Int.natAbs y2+(Int.natAbs (0:Int)+(x1.1.length+(x1.2.1.natAbs+(x1.2.2.1.natAbs+(x1.2.2.2.2.2.2.1.length+(Int.natAbs ((x1.2.2.2.2.2.2.1.length:Int))+(Int.natAbs (0:Int)+(x1.2.2.2.2.1.length+(x1.2.2.2.2.2.2.1.length+(x1.2.2.2.2.2.2.2.2.1.length+(x1.2.2.2.2.2.2.2.2.2.1.length+2))))))))))))) (x1.2.2.1,y2,0,x1.1,x1.2.1,x1.2.2.1,x1.2.2.2.2.2.2.1,(x1.2.2.2.2.2.2.1.length:Int),0,x1.2.2.2.1,x1.2.2.2.2.1,x1.2.2.2.2.2.1,x1.2.2.2.2.2.2.1,x1.2.2.2.2.2.2.2.1,x1.2.2.2.2.2.2.2.2.1,x1.2.2.2.2.2.2.2.2.2.1,()) (kD)) fun v3=>
  chk (decide (0≤(w64 (v3.1+((v3.2.2.2.2.2.2.2.2.1.length:Int)))))&&decide ((w64 (v3.1+((v3.2.2.2.2.2.2.2.2.1.length:Int))))<(v3.2.2.2.2.2.2.2.2.2.2.2.1.length:Int))) <|
  Option.bind (v3.2.2.2.2.2.2.2.2.2.2.2.1[(w64 (v3.1+((v3.2.2.2.2.2.2.2.2.1.length:Int)))).toNat]?) fun _=>
  again (v3.2.2.1,v3.2.2.2.1,w64 (v3.2.2.2.2.1+1),v3.2.2.2.2.2.1,v3.2.2.2.2.2.2.1,v3.2.2.2.2.2.2.2.1,v3.2.2.2.2.2.2.2.2.1,v3.2.2.2.2.2.2.2.2.2.1,v3.2.2.2.2.2.2.2.2.2.2.1,List.set v3.2.2.2.2.2.2.2.2.2.2.2.1 (w64 (v3.1+((v3.2.2.2.2.2.2.2.2.1.length:Int)))).toNat (gY v3.2.1),())
 else
  some (Sum.inr (x1.2.2.2.1,x1.2.2.2.2.1,x1.2.2.2.2.2.1,x1.2.2.2.2.2.2.1,x1.2.2.2.2.2.2.2.1,x1.2.2.2.2.2.2.2.2.1,x1.2.2.2.2.2.2.2.2.2.1,()))
def kz (a0:au) (a1:au):Option (au×Unit):=
 chk (decide (0≤(w64 (((a0.2.length:Int))+((a1.2.length:Int)))))&&decide ((w64 (((a0.2.length:Int))+((a1.2.length:Int))))≤(w64 (((a0.2.length:Int))+((a1.2.length:Int)))))&&decide ((4:Int)*(w64 (((a0.2.length:Int))+((a1.2.length:Int))))≤281474976710656)&&decide ((w64 (((a0.2.length:Int))+((a1.2.length:Int))))≤9223372036854775807)) <|
 bw (β:=(au×Unit)) (γ:=(Bool×(List Int)×Bool×(List Int)×Bool×(List Int)×(List Int)×Unit)) (
  iter (X:=gE) (β:=oS) (a0.2.length+(Int.natAbs ((a0.2.length:Int))+(Int.natAbs (0:Int)+(a0.2.length+(a1.2.length+(List.length ([]:List Int)+(List.length ((List.replicate (Int.toNat (w64 (((a0.2.length:Int))+((a1.2.length:Int))))) 0):List Int)+2))))))) (a0.2,(a0.2.length:Int),0,a0.1,a0.2,a1.1,a1.2,false,[],List.replicate (Int.toNat (w64 (((a0.2.length:Int))+((a1.2.length:Int))))) 0,()) (kC)) fun v10=>
 Option.bind (eG (!(v10.1==v10.2.2.1)) v10.2.2.2.2.2.2.1) fun r11=>
 some (r11.1,())
abbrev lQ:Type:=Int×Int×Bool×(List Int)×Bool×(List Int)×Unit
abbrev uu:Type:=((au×Unit) ⊕ (Bool×(List Int)×Bool×(List Int)×Unit))
def pR (x1:lQ) (again:lQ→Option uu):Option uu:=
 bif decide (x1.2.1<x1.1) then
  Option.bind (kR 10) fun r2=>
  Option.bind (kz (x1.2.2.2.2.1,x1.2.2.2.2.2.1) r2.1) fun r3=>
  again (x1.1,w64 (x1.2.1+1),x1.2.2.1,x1.2.2.2.1,r3.1.1,r3.1.2,())
 else
  some (Sum.inr (x1.2.2.1,x1.2.2.2.1,x1.2.2.2.2.1,x1.2.2.2.2.2.1,()))
def uT (a0:Int):Option (au×Unit):=
 Option.bind (kR 1) fun r1=>
 bw (β:=(au×Unit)) (γ:=(Bool×(List Int)×Bool×(List Int)×Unit)) (
  iter (X:=lQ) (β:=uu) (Int.natAbs a0+(Int.natAbs (0:Int)+(List.length ([]:List Int)+(r1.1.2.length+2)))) (a0,0,false,[],r1.1.1,r1.1.2,()) (pR)) fun v5=>
 some ((v5.2.2.1,v5.2.2.2.1),())
abbrev uw:Type:=(List Int)×(List Int)×Int×(List Int)×Int×Int×Unit
abbrev uv:Type:=(((List Int)×Unit) ⊕ ((List Int)×Int×Unit))
def Js (x1:uw) (again:uw→Option uv):Option uv:=
 bif decide (x1.2.2.2.2.2.1<x1.2.2.2.2.1) then
  Option.bind (idx x1.2.2.2.1 x1.2.2.2.2.2.1) fun y2=>
  bw (β:=(((List Int)×Unit) ⊕ ((List Int)×Int×Unit))) (γ:=((List Int)×(List Int)×Int×(List Int)×Int×Int×Unit)) (
   bif decide (x1.2.2.2.2.2.1<((x1.1.length:Int))) then
    Option.bind (idx x1.1 x1.2.2.2.2.2.1) fun y3=>
    let n4:Int:=bL ((bL (x1.2.2.1+(bL y2)))+(bL y3))
    some (Sum.inr (x1.1,x1.2.1,n4,x1.2.2.2.1,x1.2.2.2.2.1,x1.2.2.2.2.2.1,()))
   else
    some (Sum.inr (x1.1,x1.2.1,bL (x1.2.2.1+(bL y2)),x1.2.2.2.1,x1.2.2.2.2.1,x1.2.2.2.2.2.1,()))) fun v5=>
  chk (decide (((v5.2.1.length)+1)*4≤140737488355328)&&decide ((v5.2.1.length)+1≤maxLen)) <|
  again (v5.1,v5.2.1++[(gY v5.2.2.1)],Int.fdiv v5.2.2.1 (2 ^ 32),v5.2.2.2.1,v5.2.2.2.2.1,w64 (v5.2.2.2.2.2.1+1),())
 else
  some (Sum.inr (x1.2.1,x1.2.2.1,()))
def zB (a0:List Int) (a1:List Int):Option ((List Int)×Unit):=
 bw (β:=((List Int)×Unit)) (γ:=((List Int)×(List Int)×Unit)) (
  bif decide (((List.length a0:Int))<((List.length a1:Int))) then
   some (Sum.inr (a1,a0,()))
  else
   some (Sum.inr (a0,a1,()))) fun v1=>
 chk (decide (0≤(0:Int))&&decide ((0:Int)≤(w64 (((v1.1.length:Int))+1)))&&decide ((4:Int)*(w64 (((v1.1.length:Int))+1))≤281474976710656)&&decide ((w64 (((v1.1.length:Int))+1))≤9223372036854775807)) <|
 bw (β:=((List Int)×Unit)) (γ:=((List Int)×Int×Unit)) (
  iter (X:=uw) (β:=uv) (v1.2.1.length+(List.length ([]:List Int)+(Int.natAbs (0:Int)+(v1.1.length+(Int.natAbs ((v1.1.length:Int))+(Int.natAbs (0:Int)+2)))))) (v1.2.1,[],0,v1.1,(v1.1.length:Int),0,()) (Js)) fun v7=>
 chk (decide (((v7.1.length)+1)*4≤140737488355328)&&decide ((v7.1.length)+1≤maxLen)) <|
 some (v7.1++[(gY v7.2.1)],())
def gj (a0:au) (a1:au):Option (au×Unit):=
 bif a0.1==a1.1 then
  Option.bind (zB a0.2 a1.2) fun r1=>
  Option.bind (eG a0.1 r1.1) fun r2=>
  some (r2.1,())
 else
  Option.bind (nv a0.2 a1.2) fun r3=>
  bif decide (r3.1≥0) then
   Option.bind (pS a0.2 a1.2) fun r4=>
   Option.bind (eG a0.1 r4.1) fun r5=>
   some (r5.1,())
  else
   Option.bind (pS a1.2 a0.2) fun r6=>
   Option.bind (eG a1.1 r6.1) fun r7=>
   some (r7.1,())
def eD (a0:ai) (a1:Int):Option (au×Unit):=
 Option.bind (kR a0.1) fun r1=>
 Option.bind (uT (w64 (a1 - a0.2))) fun r2=>
 Option.bind (kz r1.1 r2.1) fun r3=>
 some (r3.1,())
end Go.Md
namespace Go.Md
open Go.Dn
def Lx (n:Nat):List UInt8:=if n<10 then [UInt8.ofNat (48+n)] else [UInt8.ofNat (48+n / 10),UInt8.ofNat (48+n % 10)]
def strconv_Itoa (n:Int):Option (List UInt8×Unit):=bif decide (0≤n)&&decide (n<100) then some (Lx n.toNat,()) else bif decide (-9223372036854775808≤n)&&decide (n≤9223372036854775807) then some (Lib.itoa n,()) else none
def strings_Repeat (s:List UInt8) (n:Int):Option (List UInt8×Unit):=bif decide (0≤n)&&(decide (n≤9223372036854775807)&&decide (s.length*n.toNat≤140737488355328)) then some (Lib.repeatL s n.toNat,()) else none
def wg (_a:List UInt8):Option (Int×Unit):=none
def vF (_a:List UInt8):Option (Bool×Unit):=none
def BC (_a:List UInt8):Option (Bool×Unit):=none
def Cj (_a:List UInt8):Option (Bool×Unit):=none
def BD (_a _b:Int):Option (List UInt8×Unit):=none
abbrev gX:Ty:=(.st (.pair .str (.pair .str (.pair .str bS))))
abbrev aX:Type:=(List UInt8)×(List UInt8)×(List UInt8)×ai
abbrev b5:Ty:=(.st (.pair .str (.pair .str (.pair bS (.slice gX)))))
abbrev aa:Type:=(List UInt8)×(List UInt8)×ai×(List aX)
abbrev dx:Ty:=(.st (.pair .str (.pair .str (.pair tI (.slice b5)))))
abbrev bg:Type:=(List UInt8)×(List UInt8)×Int×(List aa)
abbrev Ax:Type:=Int×ai×Int
abbrev qj:Type:=Int×(List UInt8)×(List UInt8)×ai×ai×Int×ai×ai×ai×ai
abbrev Aw:Type:=(List UInt8)×(List UInt8)×ai
abbrev aB:Ty:=(.st (.pair .str .str))
abbrev bB:Type:=(List UInt8)×(List UInt8)
def jG (a0:Int):Option (Bool×Unit):=
 Option.bind (iM a0 1 5) fun r1=>
 some (!r1.1,())
def tj (a0:Int):Option ((List Int)×Unit):=
 bif a0==1 then
  some ([8,12,13,14],())
 else
  bif a0==2 then
   some ([13],())
  else
   some ([18],())
abbrev fV:Type:=(List Int)×Int×Int×Int×Unit
abbrev nN:Type:=((Int×Unit) ⊕ Unit)
def jv (x1:fV) (again:fV→Option nN):Option nN:=
 bif decide (x1.2.2.2.1<x1.2.2.1) then
  Option.bind (idx x1.1 x1.2.2.2.1) fun y2=>
  bif x1.2.1==y2 then
   some (Sum.inl (x1.2.2.2.1,()))
  else
   again (x1.1,x1.2.1,x1.2.2.1,w64 (x1.2.2.2.1+1),())
 else
  some (Sum.inr ())
def rE (a0:List Int) (a1:Int):Option (Int×Unit):=
 bw (β:=(Int×Unit)) (γ:=Unit) (
  iter (X:=fV) (β:=nN) (List.length a0+(Int.natAbs a1+(Int.natAbs ((List.length a0:Int))+(Int.natAbs (0:Int)+2)))) (a0,a1,(List.length a0:Int),0,()) (jv)) fun _=>
 some ((-1),())
def fU (a0:List Int) (a1:Int):Option (Bool×Unit):=
 Option.bind (rE a0 a1) fun r1=>
 some (decide (r1.1≥0),())
abbrev lp:Type:=(List UInt8)×Int×Int×Int×Int×Unit
abbrev tH:Type:=((Bool×Unit) ⊕ Unit)
def pq (x1:lp) (again:lp→Option tH):Option tH:=
 bif decide (x1.2.2.2.2.1<x1.2.2.2.1) then
  Option.bind (vW x1.1 x1.2.2.2.2.1) fun c2=>
  bif decide ((c2.toNat:Int)<x1.2.1) then
   some (Sum.inl (false,()))
  else
   Option.bind (vW x1.1 x1.2.2.2.2.1) fun c3=>
   bif decide ((c3.toNat:Int)>x1.2.2.1) then
    some (Sum.inl (false,()))
   else
    again (x1.1,x1.2.1,x1.2.2.1,x1.2.2.2.1,w64 (x1.2.2.2.2.1+1),())
 else
  some (Sum.inr ())
def zi (a0:List UInt8) (a1:Int) (a2:Int):Option (Bool×Unit):=
 bw (β:=(Bool×Unit)) (γ:=Unit) (
  iter (X:=lp) (β:=tH) (List.length a0+(Int.natAbs a1+(Int.natAbs a2+(Int.natAbs ((List.length a0:Int))+(Int.natAbs (0:Int)+2))))) (a0,a1,a2,(List.length a0:Int),0,()) (pq)) fun _=>
 some (true,())
def ov (a0:List UInt8):Option (Bool×Unit):=
 bif !(a0==[]) then
  Option.bind (zi a0 48 57) fun r1=>
  some (r1.1,())
 else
  some (false,())
abbrev sA:Type:=(List UInt8)×Int×Int×Int×Unit
abbrev sw:Type:=((Bool×Unit) ⊕ (Int×Unit))
def Ga (x1:sA) (again:sA→Option sw):Option sw:=
 bif decide (x1.2.2.2.1<x1.2.2.1) then
  let n2:Int:=w64 ((w64 (((x1.1.length:Int)) - 1)) - x1.2.2.2.1)
  Option.bind (vW x1.1 n2) fun c3=>
  bif (Int.tmod x1.2.2.2.1 2)==1 then
   let n4:Int:=w64 ((w64 (wu8 ((c3.toNat:Int) - 48)))*3)
   again (x1.1,w64 (x1.2.1+n4),x1.2.2.1,w64 (x1.2.2.2.1+1),())
  else
   let n5:Int:=w64 (x1.2.1+(w64 (wu8 ((c3.toNat:Int) - 48))))
   again (x1.1,n5,x1.2.2.1,w64 (x1.2.2.2.1+1),())
 else
  some (Sum.inr (x1.2.1,()))
def w9 (a0:List UInt8):Option (Bool×Unit):=
 bw (β:=(Bool×Unit)) (γ:=(Int×Unit)) (
  iter (X:=sA) (β:=sw) (List.length a0+(Int.natAbs (0:Int)+(Int.natAbs ((List.length a0:Int))+(Int.natAbs (0:Int)+2)))) (a0,0,(List.length a0:Int),0,()) (Ga)) fun v6=>
 some ((Int.tmod v6.1 10)==0,())
def gH (a0:Int) (a1:List UInt8):Option (Bool×Unit):=
 bif a0==4 then
  Option.bind (vF a1) fun r1=>
  some (r1.1,())
 else
  bif a0==5 then
   Option.bind (Cj a1) fun r2=>
   some (r2.1,())
  else
   Option.bind (tj a0) fun r3=>
   Option.bind (fU r3.1 ((List.length a1:Int))) fun r4=>
   bif r4.1 then
    Option.bind (ov a1) fun r5=>
    bif r5.1 then
     Option.bind (w9 a1) fun r6=>
     some (r6.1,())
    else
     some (false,())
   else
    some (false,())
def nT (a0:Int) (a1:List UInt8):Option (Bool×Int×Unit):=
 Option.bind (jG a0) fun r1=>
 bif !r1.1 then
  some (false,4,())
 else
  Option.bind (gH a0 a1) fun r2=>
  some (r2.1,0,())
def lI (a0:List UInt8):Option (Bool×Unit):=
 Option.bind (nT 3 a0) fun r1=>
 some (r1.1,())
def cc (a0:ai) (a1:Bool):Option (Int×Unit):=
 Option.bind (fS a0) fun r1=>
 bif r1.1 != 0 then
  some (r1.1,())
 else
  Option.bind (sK a0 3 1000000000) fun r2=>
  bif !r2.1 then
   some (1,())
  else
   bif a0.1==0 then
    bif !a1 then
     some (1,())
    else
     some (0,())
   else
    some (0,())
abbrev qK:Type:=Int×(List Int)×Int×Int×Unit
abbrev vG:Type:=((Int×Unit) ⊕ (Int×Unit))
def qJ (x1:qK) (again:qK→Option vG):Option vG:=
 bif decide (x1.2.2.2.1<x1.2.2.1) then
  Option.bind (idx x1.2.1 x1.2.2.2.1) fun y2=>
  bif y2 != x1.1 then
   some (Sum.inl (y2,()))
  else
   again (x1.1,x1.2.1,x1.2.2.1,w64 (x1.2.2.2.1+1),())
 else
  some (Sum.inr (x1.1,()))
def wA (a0:List Int):Option (Int×Unit):=
 bw (β:=(Int×Unit)) (γ:=(Int×Unit)) (
  iter (X:=qK) (β:=vG) (Int.natAbs (0:Int)+(List.length a0+(Int.natAbs ((List.length a0:Int))+(Int.natAbs (0:Int)+2)))) (0,a0,(List.length a0:Int),0,()) (qJ)) fun v3=>
 some (v3.1,())
def ew (a0:aX) (a1:aX):Option (Int×Unit):=
 Option.bind (strings_Compare a0.1 a1.1) fun r1=>
 Option.bind (strings_Compare a0.2.1 a1.2.1) fun r2=>
 Option.bind (strings_Compare a0.2.2.1 a1.2.2.1) fun r3=>
 Option.bind (wA [r1.1,r2.1,r3.1]) fun r4=>
 some (r4.1,())
abbrev fP:Type:=(List aX)×(List aX)×Int×Int×Unit
abbrev jB:Type:=((Int×Unit) ⊕ Unit)
def fO (x1:fP) (again:fP→Option jB):Option jB:=
 bif decide (x1.2.2.2.1<x1.2.2.1) then
  Option.bind (idx x1.2.1 x1.2.2.2.1) fun y2=>
  Option.bind (dF y2.1) fun r3=>
  bif !r3.1 then
   some (Sum.inl (5,()))
  else
   Option.bind (dF y2.2.1) fun r4=>
   bif !r4.1 then
    some (Sum.inl (5,()))
   else
    bif !(y2.2.2.1==[]) then
     Option.bind (dF y2.2.2.1) fun r5=>
     bif !r5.1 then
      some (Sum.inl (5,()))
     else
      bif decide (x1.2.2.2.1>0) then
       Option.bind (idx x1.1 (w64 (x1.2.2.2.1 - 1))) fun y6=>
       Option.bind (ew y6 y2) fun r7=>
       bif decide (r7.1≥0) then
        some (Sum.inl (8,()))
       else
        Option.bind (cc y2.2.2.2 false) fun r8=>
        bif r8.1 != 0 then
         some (Sum.inl (r8.1,()))
        else
         again (x1.1,x1.2.1,x1.2.2.1,w64 (x1.2.2.2.1+1),())
      else
       Option.bind (cc y2.2.2.2 false) fun r9=>
       bif r9.1 != 0 then
        some (Sum.inl (r9.1,()))
       else
        again (x1.1,x1.2.1,x1.2.2.1,w64 (x1.2.2.2.1+1),())
    else
     bif decide (x1.2.2.2.1>0) then
      Option.bind (idx x1.1 (w64 (x1.2.2.2.1 - 1))) fun y10=>
      Option.bind (ew y10 y2) fun r11=>
      bif decide (r11.1≥0) then
       some (Sum.inl (8,()))
      else
       Option.bind (cc y2.2.2.2 false) fun r12=>
       bif r12.1 != 0 then
        some (Sum.inl (r12.1,()))
       else
        again (x1.1,x1.2.1,x1.2.2.1,w64 (x1.2.2.2.1+1),())
     else
      Option.bind (cc y2.2.2.2 false) fun r13=>
      bif r13.1 != 0 then
       some (Sum.inl (r13.1,()))
      else
       again (x1.1,x1.2.1,x1.2.2.1,w64 (x1.2.2.2.1+1),())
 else
  some (Sum.inr ())
def fD (a0:List aX):Option (Int×Unit):=
 bif decide (((List.length a0:Int))>100) then
  some (2,())
 else
  bw (β:=(Int×Unit)) (γ:=Unit) (
   iter (X:=fP) (β:=jB) (List.length a0+(List.length a0+(Int.natAbs ((List.length a0:Int))+(Int.natAbs (0:Int)+2)))) (a0,a0,(List.length a0:Int),0,()) (fO)) fun _=>
  some (0,())
def kg (a0:List aa) (a1:Int):Option (Int×Unit):=
 Option.bind (idx a0 a1) fun y1=>
 Option.bind (lI y1.1) fun r2=>
 bif !r2.1 then
  some (3,())
 else
  bif decide (a1>0) then
   Option.bind (idx a0 (w64 (a1 - 1))) fun y3=>
   bif Op.bytesLess y1.1 y3.1||y1.1==y3.1 then
    some (8,())
   else
    Option.bind (cc y1.2.2.1 true) fun r4=>
    bif r4.1 != 0 then
     some (r4.1,())
    else
     Option.bind (fD y1.2.2.2) fun r5=>
     some (r5.1,())
  else
   Option.bind (cc y1.2.2.1 true) fun r6=>
   bif r6.1 != 0 then
    some (r6.1,())
   else
    Option.bind (fD y1.2.2.2) fun r7=>
    some (r7.1,())
def pZ (a0:aa) (a1:List UInt8):Option (Int×Unit):=
 Option.bind (strings_Compare a0.1 a1) fun r1=>
 some (r1.1,())
abbrev bK:Type:=(List aa)×(List UInt8)×Unit×Int×Int×Int×Unit
abbrev cT:Type:=((Int×Bool×Unit) ⊕ ((List aa)×(List UInt8)×Unit×Int×Int×Unit))
def cS (x1:bK) (again:bK→Option cT):Option cT:=
 bif decide (x1.2.2.2.2.1<x1.2.2.2.2.2.1) then
  let n2:Int:=w64 (Int.fdiv (bL (w64 (x1.2.2.2.2.1+x1.2.2.2.2.2.1))) (2 ^ 1))
  Option.bind (idx x1.1 n2) fun y3=>
  Option.bind (pZ y3 x1.2.1) fun r4=>
  bif decide (r4.1<0) then
   again (x1.1,x1.2.1,x1.2.2.1,x1.2.2.2.1,w64 (n2+1),x1.2.2.2.2.2.1,())
  else
   again (x1.1,x1.2.1,x1.2.2.1,x1.2.2.2.1,x1.2.2.2.2.1,n2,())
 else
  some (Sum.inr (x1.1,x1.2.1,x1.2.2.1,x1.2.2.2.1,x1.2.2.2.2.1,()))
def cg (a0:List aa) (a1:List UInt8) (a2:Unit):Option (Int×Bool×Unit):=
 bw (β:=(Int×Bool×Unit)) (γ:=((List aa)×(List UInt8)×Unit×Int×Int×Unit)) (
  iter (X:=bK) (β:=cT) (List.length a0+(List.length a1+(Int.natAbs ((List.length a0:Int))+(Int.natAbs (0:Int)+(Int.natAbs ((List.length a0:Int))+2))))) (a0,a1,a2,(List.length a0:Int),0,(List.length a0:Int),()) (cS)) fun v5=>
 bif decide (v5.2.2.2.2.1<v5.2.2.2.1) then
  Option.bind (idx v5.1 v5.2.2.2.2.1) fun y6=>
  Option.bind (pZ y6 v5.2.1) fun r7=>
  some (v5.2.2.2.2.1,r7.1==0,())
 else
  some (v5.2.2.2.2.1,false,())
def gO (a0:bg) (a1:List UInt8):Option (Int×Bool×Unit):=
 Option.bind (cg a0.2.2.2 a1 ()) fun r1=>
 some (r1.1,r1.2.1,())
abbrev fZ:Type:=Int×(List Int)×Int×(List UInt8)×(List UInt8)×Int×(List aa)×Unit
abbrev eM:Type:=(((List Int)×Bool×Unit) ⊕ ((List Int)×Unit))
def mw (x1:fZ) (again:fZ→Option eM):Option eM:=
 Option.bind (idx x1.2.2.2.2.2.2.1 x1.2.2.1) fun y2=>
 bif !(y2.2.1==[]) then
  Option.bind (idx x1.2.2.2.2.2.2.1 x1.2.2.1) fun y3=>
  Option.bind (gO (x1.2.2.2.1,x1.2.2.2.2.1,x1.2.2.2.2.2.1,x1.2.2.2.2.2.2.1) y3.2.1) fun r4=>
  bif r4.1==x1.1 then
   some (Sum.inl ([],false,()))
  else
   Option.bind (fU x1.2.1 r4.1) fun r5=>
   bif r5.1 then
    some (Sum.inl (x1.2.1,true,()))
   else
    chk (decide (((x1.2.1.length)+1)*8≤140737488355328)&&decide ((x1.2.1.length)+1≤maxLen)) <|
    again (x1.1,x1.2.1++[r4.1],r4.1,x1.2.2.2.1,x1.2.2.2.2.1,x1.2.2.2.2.2.1,x1.2.2.2.2.2.2.1,())
 else
  some (Sum.inr (x1.2.1,()))
def gU (a0:bg) (a1:Int):Option ((List Int)×Bool×Unit):=
 bw (β:=((List Int)×Bool×Unit)) (γ:=((List Int)×Unit)) (
  iter (X:=fZ) (β:=eM) (Int.natAbs a1+(List.length ([]:List Int)+(Int.natAbs a1+(a0.1.length+(a0.2.1.length+(a0.2.2.1.natAbs+(a0.2.2.2.length+2))))))) (a1,[],a1,a0.1,a0.2.1,a0.2.2.1,a0.2.2.2,()) (mw)) fun v6=>
 some (v6.1,true,())
abbrev jq:Type:=(List aa)×Int×Int×(List UInt8)×(List UInt8)×Int×(List aa)×Unit
abbrev nL:Type:=((Int×Unit) ⊕ ((List UInt8)×(List UInt8)×Int×(List aa)×Unit))
def jl (x1:jq) (again:jq→Option nL):Option nL:=
 bif decide (x1.2.2.1<x1.2.1) then
  Option.bind (idx x1.1 x1.2.2.1) fun y2=>
  Option.bind (gO (x1.2.2.2.1,x1.2.2.2.2.1,x1.2.2.2.2.2.1,x1.2.2.2.2.2.2.1) y2.2.1) fun r3=>
  bif !(y2.2.1==[]) then
   bif !r3.2.1 then
    some (Sum.inl (9,()))
   else
    again (x1.1,x1.2.1,w64 (x1.2.2.1+1),x1.2.2.2.1,x1.2.2.2.2.1,x1.2.2.2.2.2.1,x1.2.2.2.2.2.2.1,())
  else
   again (x1.1,x1.2.1,w64 (x1.2.2.1+1),x1.2.2.2.1,x1.2.2.2.2.1,x1.2.2.2.2.2.1,x1.2.2.2.2.2.2.1,())
 else
  some (Sum.inr (x1.2.2.2.1,x1.2.2.2.2.1,x1.2.2.2.2.2.1,x1.2.2.2.2.2.2.1,()))
abbrev jr:Type:=Int×Int×(List UInt8)×(List UInt8)×Int×(List aa)×Unit
abbrev nM:Type:=((Int×Unit) ⊕ ((List UInt8)×(List UInt8)×Int×(List aa)×Unit))
def jm (x1:jr) (again:jr→Option nM):Option nM:=
 bif decide (x1.2.1<x1.1) then
  Option.bind (gU (x1.2.2.1,x1.2.2.2.1,x1.2.2.2.2.1,x1.2.2.2.2.2.1) x1.2.1) fun r2=>
  bif !r2.2.1 then
   some (Sum.inl (17,()))
  else
   again (x1.1,w64 (x1.2.1+1),x1.2.2.1,x1.2.2.2.1,x1.2.2.2.2.1,x1.2.2.2.2.2.1,())
 else
  some (Sum.inr (x1.2.2.1,x1.2.2.2.1,x1.2.2.2.2.1,x1.2.2.2.2.2.1,()))
abbrev iH:Type:=Int×Int×(List UInt8)×(List UInt8)×Int×(List aa)×Unit
abbrev mB:Type:=((Int×Unit) ⊕ Unit)
def iG (x1:iH) (again:iH→Option mB):Option mB:=
 bif decide (x1.2.1<x1.1) then
  Option.bind (gU (x1.2.2.1,x1.2.2.2.1,x1.2.2.2.2.1,x1.2.2.2.2.2.1) x1.2.1) fun r2=>
  bif decide (((r2.1.length:Int))>5) then
   some (Sum.inl (2,()))
  else
   again (x1.1,w64 (x1.2.1+1),x1.2.2.1,x1.2.2.2.1,x1.2.2.2.2.1,x1.2.2.2.2.2.1,())
 else
  some (Sum.inr ())
def mA (a0:bg):Option (Int×Unit):=
 bw (β:=(Int×Unit)) (γ:=((List UInt8)×(List UInt8)×Int×(List aa)×Unit)) (
  iter (X:=jq) (β:=nL) (a0.2.2.2.length+(Int.natAbs ((a0.2.2.2.length:Int))+(Int.natAbs (0:Int)+(a0.1.length+(a0.2.1.length+(a0.2.2.1.natAbs+(a0.2.2.2.length+2))))))) (a0.2.2.2,(a0.2.2.2.length:Int),0,a0.1,a0.2.1,a0.2.2.1,a0.2.2.2,()) (jl)) fun v4=>
 bw (β:=(Int×Unit)) (γ:=((List UInt8)×(List UInt8)×Int×(List aa)×Unit)) (
  iter (X:=jr) (β:=nM) (Int.natAbs ((v4.2.2.2.1.length:Int))+(Int.natAbs (0:Int)+(v4.1.length+(v4.2.1.length+(v4.2.2.1.natAbs+(v4.2.2.2.1.length+2)))))) ((v4.2.2.2.1.length:Int),0,v4.1,v4.2.1,v4.2.2.1,v4.2.2.2.1,()) (jm)) fun v7=>
 bw (β:=(Int×Unit)) (γ:=Unit) (
  iter (X:=iH) (β:=mB) (Int.natAbs ((v7.2.2.2.1.length:Int))+(Int.natAbs (0:Int)+(v7.1.length+(v7.2.1.length+(v7.2.2.1.natAbs+(v7.2.2.2.1.length+2)))))) ((v7.2.2.2.1.length:Int),0,v7.1,v7.2.1,v7.2.2.1,v7.2.2.2.1,()) (iG)) fun _=>
 some (0,())
abbrev gK:Type:=Int×Int×(List UInt8)×(List UInt8)×Int×(List aa)×Unit
abbrev lF:Type:=((Int×Unit) ⊕ ((List UInt8)×(List UInt8)×Int×(List aa)×Unit))
def gJ (x1:gK) (again:gK→Option lF):Option lF:=
 bif decide (x1.2.1<x1.1) then
  Option.bind (kg x1.2.2.2.2.2.1 x1.2.1) fun r2=>
  bif r2.1 != 0 then
   some (Sum.inl (r2.1,()))
  else
   again (x1.1,w64 (x1.2.1+1),x1.2.2.1,x1.2.2.2.1,x1.2.2.2.2.1,x1.2.2.2.2.2.1,())
 else
  some (Sum.inr (x1.2.2.1,x1.2.2.2.1,x1.2.2.2.2.1,x1.2.2.2.2.2.1,()))
def gC (a0:bg):Option (Int×Unit):=
 Option.bind (dF a0.1) fun r1=>
 bif !r1.1 then
  some (5,())
 else
  Option.bind (dF a0.2.1) fun r2=>
  bif !r2.1 then
   some (5,())
  else
   Option.bind (yM a0.2.2.1) fun r3=>
   bif !r3.1 then
    some (1,())
   else
    bif decide (((a0.2.2.2.length:Int))>500) then
     some (2,())
    else
     bw (β:=(Int×Unit)) (γ:=((List UInt8)×(List UInt8)×Int×(List aa)×Unit)) (
      iter (X:=gK) (β:=lF) (Int.natAbs ((a0.2.2.2.length:Int))+(Int.natAbs (0:Int)+(a0.1.length+(a0.2.1.length+(a0.2.2.1.natAbs+(a0.2.2.2.length+2)))))) ((a0.2.2.2.length:Int),0,a0.1,a0.2.1,a0.2.2.1,a0.2.2.2,()) (gJ)) fun v6=>
     Option.bind (mA (v6.1,v6.2.1,v6.2.2.1,v6.2.2.2.1)) fun r7=>
     some (r7.1,())
def iu (a0:bg) (a1:List UInt8) (a2:Bool):Option (Int×Unit):=
 Option.bind (gC a0) fun r1=>
 bif r1.1 != 0 then
  some (r1.1,())
 else
  Option.bind (gO a0 a1) fun r2=>
  bif !r2.2.1 then
   bif a2 then
    bif !(a1==[]) then
     some (9,())
    else
     some (0,())
   else
    some (9,())
  else
   some (0,())
def pY (a0:Int) (a1:bg) (a2:List UInt8):Option (Bool×Unit):=
 Option.bind (idx a1.2.2.2 a0) fun y1=>
 some (y1.1==a2,())
abbrev dR:Type:=(List Int)×(bg×(List UInt8))×Int×Int×Unit
abbrev jD:Type:=((Int×Unit) ⊕ Unit)
def fQ (x1:dR) (again:dR→Option jD):Option jD:=
 bif decide (x1.2.2.2.1<x1.2.2.1) then
  Option.bind (idx x1.1 x1.2.2.2.1) fun y2=>
  Option.bind (pY y2 x1.2.1.1 x1.2.1.2) fun r3=>
  bif r3.1 then
   some (Sum.inl (x1.2.2.2.1,()))
  else
   again (x1.1,x1.2.1,x1.2.2.1,w64 (x1.2.2.2.1+1),())
 else
  some (Sum.inr ())
def mC (a0:List Int) (a1:bg×(List UInt8)):Option (Int×Unit):=
 bw (β:=(Int×Unit)) (γ:=Unit) (
  iter (X:=dR) (β:=jD) (List.length a0+(Int.natAbs ((List.length a0:Int))+(Int.natAbs (0:Int)+2))) (a0,a1,(List.length a0:Int),0,()) (fQ)) fun _=>
 some ((-1),())
def jC (a0:List Int) (a1:bg×(List UInt8)):Option (Bool×Unit):=
 Option.bind (mC a0 a1) fun r1=>
 some (decide (r1.1≥0),())
def nY (a0:bg) (a1:Int) (a2:List UInt8):Option (Bool×Unit):=
 Option.bind (gU a0 a1) fun r1=>
 Option.bind (jC r1.1 (a0,a2)) fun r2=>
 some (r2.1,())
abbrev fE:Type:=(List UInt8)×Int×Int×Int×Unit
abbrev xU:Type:=((Bool×Unit) ⊕ (Int×Unit))
def iY (x1:fE) (again:fE→Option xU):Option xU:=
 bif decide (x1.2.2.2.1<x1.2.2.1) then
  let n2:Int:=w64 ((w64 (((x1.1.length:Int)) - 1)) - x1.2.2.2.1)
  Option.bind (vW x1.1 n2) fun c3=>
  bif (Int.tmod x1.2.2.2.1 2)==1 then
   let n4:Int:=w64 ((w64 (wu8 ((c3.toNat:Int) - 48)))*3)
   again (x1.1,w64 (x1.2.1+n4),x1.2.2.1,w64 (x1.2.2.2.1+1),())
  else
   let n5:Int:=w64 (x1.2.1+(w64 (wu8 ((c3.toNat:Int) - 48))))
   again (x1.1,n5,x1.2.2.1,w64 (x1.2.2.2.1+1),())
 else
  some (Sum.inr (x1.2.1,()))
def vu (a0:List UInt8):Option (Bool×Unit):=
 bw (β:=(Bool×Unit)) (γ:=(Int×Unit)) (
  iter (X:=fE) (β:=xU) (List.length a0+(Int.natAbs (0:Int)+(Int.natAbs ((List.length a0:Int))+(Int.natAbs (0:Int)+2)))) (a0,0,(List.length a0:Int),0,()) (iY)) fun v6=>
 some ((Int.tmod v6.1 10)==0,())
def Jb (a0:ai) (a1:ai):Option (Int×Unit):=
 Option.bind (HA a0 9) fun r1=>
 Option.bind (HA a1 9) fun r2=>
 Option.bind (HB r1.1 r2.1) fun r3=>
 some (r3.1,())
abbrev lJ:Type:=Int×Int×Int×Unit
abbrev pJ:Type:=((Int×Bool×Unit) ⊕ (Int×Unit))
def pI (x1:lJ) (again:lJ→Option pJ):Option pJ:=
 bif decide (x1.2.2.1<x1.2.1) then
  again (w64 (x1.1*10),x1.2.1,w64 (x1.2.2.1+1),())
 else
  some (Sum.inr (x1.1,()))
def qz (a0:List UInt8):Option (Int×Bool×Unit):=
 bif decide (((List.length a0:Int))>15) then
  some (0,false,())
 else
  Option.bind (ov a0) fun r1=>
  bif !r1.1 then
   some (0,false,())
  else
   bw (β:=(Int×Bool×Unit)) (γ:=(Int×Unit)) (
    iter (X:=lJ) (β:=pJ) (Int.natAbs (1:Int)+(Int.natAbs (w64 (17 - ((List.length a0:Int))))+(Int.natAbs (0:Int)+2))) (1,w64 (17 - ((List.length a0:Int))),0,()) (pI)) fun v3=>
   some (v3.1,true,())
abbrev fo:Type:=Int×(List UInt8)×Int×Unit
abbrev iB:Type:=(((List UInt8)×Int×Unit) ⊕ Unit)
def lZ (x1:fo) (again:fo→Option iB):Option iB:=
 bif decide (x1.2.2.1<10) then
  Option.bind (strconv_Itoa x1.2.2.1) fun r2=>
  chk (decide (x1.2.1.length+r2.1.length≤maxLen)) <|
  Option.bind (gH x1.1 (x1.2.1++r2.1)) fun r3=>
  bif r3.1 then
   some (Sum.inl (x1.2.1++r2.1,0,()))
  else
   again (x1.1,x1.2.1,w64 (x1.2.2.1+1),())
 else
  some (Sum.inr ())
def lY (a0:Int) (a1:List UInt8):Option ((List UInt8)×Int×Unit):=
 Option.bind (jG a0) fun r1=>
 bif !r1.1 then
  some ([],4,())
 else
  bif decide (((List.length a1:Int))>34) then
   some ([],3,())
  else
   bif a0==4 then
    bif decide (((List.length a1:Int))<2) then
     some ([],3,())
    else
     Option.bind (BC a1) fun r2=>
     bif !r2.1 then
      some ([],3,())
     else
      bif decide (((List.length a1:Int))<13) then
       some ([],3,())
      else
       chk (decide (0≤(0:Int))&&decide ((0:Int)≤2)&&decide (2≤(List.length a1:Int))) <|
       chk (decide (List.length (List.drop 0 (List.take (Int.toNat 2) a1))+List.length [48,48]≤maxLen)) <|
       chk (decide (0≤(2:Int))&&decide ((2:Int)≤((List.length a1:Int)))&&decide (((List.length a1:Int))≤(List.length a1:Int))) <|
       chk (decide (List.length ((List.drop 0 (List.take (Int.toNat 2) a1))++[48,48])+List.length (List.drop 2 (List.take (Int.toNat ((List.length a1:Int))) a1))≤maxLen)) <|
       Option.bind (wg (((List.drop 0 (List.take (Int.toNat 2) a1))++[48,48])++(List.drop 2 (List.take (Int.toNat ((List.length a1:Int))) a1)))) fun r3=>
       chk (decide (0≤(0:Int))&&decide ((0:Int)≤2)&&decide (2≤(List.length a1:Int))) <|
       Option.bind (BD (w64 (98 - r3.1)) 2) fun r4=>
       chk (decide (List.length (List.drop 0 (List.take (Int.toNat 2) a1))+r4.1.length≤maxLen)) <|
       chk (decide (0≤(2:Int))&&decide ((2:Int)≤((List.length a1:Int)))&&decide (((List.length a1:Int))≤(List.length a1:Int))) <|
       chk (decide (List.length ((List.drop 0 (List.take (Int.toNat 2) a1))++r4.1)+List.length (List.drop 2 (List.take (Int.toNat ((List.length a1:Int))) a1))≤maxLen)) <|
       Option.bind (vF (((List.drop 0 (List.take (Int.toNat 2) a1))++r4.1)++(List.drop 2 (List.take (Int.toNat ((List.length a1:Int))) a1)))) fun r5=>
       bif !r5.1 then
        some ([],3,())
       else
        some (((List.drop 0 (List.take (Int.toNat 2) a1))++r4.1)++(List.drop 2 (List.take (Int.toNat ((List.length a1:Int))) a1)),0,())
   else
    bw (β:=((List UInt8)×Int×Unit)) (γ:=Unit) (
     iter (X:=fo) (β:=iB) (Int.natAbs a0+(List.length a1+(Int.natAbs (0:Int)+2))) (a0,a1,0,()) (lZ)) fun _=>
    some ([],3,())
def eX (a0:List UInt8) (a1:Int):Option ((List UInt8)×Int×Unit):=
 Option.bind (qz a0) fun r1=>
 bif !r1.2.1 then
  some ([],3,())
 else
  Option.bind (iM a1 0 (w64 (r1.1 - 1))) fun r2=>
  bif r2.1 then
   some ([],1,())
  else
   Option.bind (strconv_Itoa a1) fun r3=>
   let n4:Int:=w64 ((w64 (17 - ((List.length a0:Int)))) - ((r3.1.length:Int)))
   Option.bind (strings_Repeat [48] n4) fun r5=>
   chk (decide (List.length a0+r5.1.length≤maxLen)) <|
   chk (decide (List.length (a0++r5.1)+r3.1.length≤maxLen)) <|
   Option.bind (lY 3 ((a0++r5.1)++r3.1)) fun r6=>
   some (r6.1,r6.2.1,())
def yO:Option (Bool×Unit):=
 Option.bind (eX [51,52,48,49,50,51,52,53] 1) fun r1=>
 bif r1.2.1==0 then
  some (r1.1==[51,52,48,49,50,51,52,53,48,48,48,48,48,48,48,48,49,55],())
 else
  some (false,())
end Go.Md
namespace Go.Md
open Go.Dn
def gf (a0:bg) (a1:Int) (a2:List UInt8):Option (Bool×Unit):=
 bif a2==[] then
  some (true,())
 else
  Option.bind (idx a0.2.2.2 a1) fun y1=>
  bif y1.1==a2 then
   some (true,())
  else
   Option.bind (nY a0 a1 a2) fun r2=>
   some (r2.1,())
end Go.Md
namespace Go.Md
open Go.Dn
def uD (a0:au):Option (ai×Int×Unit):=
 Option.bind (mV a0 9) fun r1=>
 some (r1.1,r1.2.1,())
def sQ (a0:ai) (a1:ai):Option (Bool×Unit):=
 Option.bind (Jb a0 a1) fun r1=>
 some (decide (r1.1≤0),())
end Go.Md
