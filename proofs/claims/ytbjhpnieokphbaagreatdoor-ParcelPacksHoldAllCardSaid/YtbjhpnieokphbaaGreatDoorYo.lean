/-
  The plain models of the functions that the law reaches, third part. No condition.
-/
import Derived.Test.YtbjhpnieokphbaaGreatDoorYn
import Derived.Test.YtbjhpnieokphbaaGreatDoorYa
set_option linter.all false
set_option linter.all false
namespace Go.Md
open Go.Dn
def fe (a b:List UInt8×List UInt8):Int:=bif Lib.compareBytes a.1 b.1==0 then Lib.compareBytes a.2 b.2 else Lib.compareBytes a.1 b.1
noncomputable section
abbrev aR:Ty:=(.st (.pair .str (.pair .str bS)))
abbrev ah:Type:=(List UInt8)×(List UInt8)×ai
def gP (a0:List (bB×au)) (a1:bB) (a2:ai):Option ((List (bB×au))×Unit):=
 bif !(Option.isSome (bQ (k:=aB) (v:=aH) a0 a1)) then
  Option.bind (kR 0) fun r1=>
  Option.bind (eD a2 9) fun r2=>
  Option.bind (gj r1.1 r2.1) fun r3=>
  some (fJ (k:=aB) (v:=aH) a0 a1 r3.1,())
 else
  Option.bind (eD a2 9) fun r4=>
  Option.bind (gj (Option.getD (α:=au) (bQ (k:=aB) (v:=aH) a0 a1) (false,[])) r4.1) fun r5=>
  some (fJ (k:=aB) (v:=aH) a0 a1 r5.1,())
abbrev ir:Type:=(List ah)×Int×Int×(List bB)×(List (bB×au))×Unit
abbrev iq:Type:=(((List ah)×Int×(List (bB×au))×Unit) ⊕ ((List ah)×(List (bB×au))×Unit))
def fG (x1:ir) (again:ir→Option iq):Option iq:=
 bif decide (x1.2.2.1<x1.2.1) then
  chk (decide (0≤x1.2.2.1)&&decide (x1.2.2.1<(x1.2.2.2.1.length:Int))) <|
  Option.bind (x1.2.2.2.1[x1.2.2.1.toNat]?) fun y2=>
  Option.bind (uD (Option.getD (α:=au) (bQ (k:=aB) (v:=aH) x1.2.2.2.2.1 y2) (false,[]))) fun r3=>
  bif r3.2.1 != 0 then
   some (Sum.inl ([],r3.2.1,x1.2.2.2.2.1,()))
  else
   bif r3.1.1 != 0 then
    chk (decide (((x1.1.length)+1)*48≤140737488355328)&&decide ((x1.1.length)+1≤maxLen)) <|
    again (x1.1++[(y2.1,y2.2,r3.1)],x1.2.1,w64 (x1.2.2.1+1),x1.2.2.2.1,x1.2.2.2.2.1,())
   else
    again (x1.1,x1.2.1,w64 (x1.2.2.1+1),x1.2.2.2.1,x1.2.2.2.2.1,())
 else
  some (Sum.inr (x1.1,x1.2.2.2.2.1,()))
def pG (a0:List (bB×au)):Option ((List ah)×Int×(List (bB×au))×Unit):=
 chk (wS fe a0) <|
 bw (β:=((List ah)×Int×(List (bB×au))×Unit)) (γ:=((List ah)×(List (bB×au))×Unit)) (
  iter (X:=ir) (β:=iq) (List.length ([]:List ah)+(Int.natAbs ((List.length (jT fe a0):Int))+(Int.natAbs (0:Int)+(List.length ((jT fe a0):List bB)+(List.length a0+2))))) ([],(List.length (jT fe a0):Int),0,jT fe a0,a0,()) (fG)) fun v4=>
 some (v4.1,0,v4.2.1,())
abbrev ij:Type:=(List UInt8)×(List aa)×Int×Int×(List aX)×Int×Int×(List UInt8)×(List UInt8)×Int×(List aa)×(List (bB×au))×Unit
abbrev kW:Type:=((((List ah)×Int×Unit) ⊕ ((List (bB×au))×Unit)) ⊕ ((List UInt8)×(List aa)×Int×Int×(List UInt8)×(List UInt8)×Int×(List aa)×(List (bB×au))×Unit))
def kV (x1:ij) (again:ij→Option kW):Option kW:=
 bif decide (x1.2.2.2.2.2.2.1<x1.2.2.2.2.2.1) then
  Option.bind (idx x1.2.2.2.2.1 x1.2.2.2.2.2.2.1) fun y2=>
  Option.bind (gP x1.2.2.2.2.2.2.2.2.2.2.2.1 (y2.1,y2.2.1) y2.2.2.2) fun r3=>
  again (x1.1,x1.2.1,x1.2.2.1,x1.2.2.2.1,x1.2.2.2.2.1,x1.2.2.2.2.2.1,w64 (x1.2.2.2.2.2.2.1+1),x1.2.2.2.2.2.2.2.1,x1.2.2.2.2.2.2.2.2.1,x1.2.2.2.2.2.2.2.2.2.1,x1.2.2.2.2.2.2.2.2.2.2.1,r3.1,())
 else
  some (Sum.inr (x1.1,x1.2.1,x1.2.2.1,x1.2.2.2.1,x1.2.2.2.2.2.2.2.1,x1.2.2.2.2.2.2.2.2.1,x1.2.2.2.2.2.2.2.2.2.1,x1.2.2.2.2.2.2.2.2.2.2.1,x1.2.2.2.2.2.2.2.2.2.2.2.1,()))
abbrev iX:Type:=(List UInt8)×(List aa)×Int×Int×(List UInt8)×(List UInt8)×Int×(List aa)×(List (bB×au))×Unit
abbrev mu:Type:=(((List ah)×Int×Unit) ⊕ ((List (bB×au))×Unit))
def mq (x1:iX) (again:iX→Option mu):Option mu:=
 bif decide (x1.2.2.2.1<x1.2.2.1) then
  Option.bind (idx x1.2.1 x1.2.2.2.1) fun y2=>
  Option.bind (gf (x1.2.2.2.2.1,x1.2.2.2.2.2.1,x1.2.2.2.2.2.2.1,x1.2.2.2.2.2.2.2.1) x1.2.2.2.1 x1.1) fun r3=>
  bif !r3.1 then
   again (x1.1,x1.2.1,x1.2.2.1,w64 (x1.2.2.2.1+1),x1.2.2.2.2.1,x1.2.2.2.2.2.1,x1.2.2.2.2.2.2.1,x1.2.2.2.2.2.2.2.1,x1.2.2.2.2.2.2.2.2.1,())
  else
   bw (β:=(((List ah)×Int×Unit) ⊕ ((List (bB×au))×Unit))) (γ:=((List UInt8)×(List aa)×Int×Int×(List UInt8)×(List UInt8)×Int×(List aa)×(List (bB×au))×Unit)) (
    iter (X:=ij) (β:=kW) (x1.1.length+(x1.2.1.length+(x1.2.2.1.natAbs+(x1.2.2.2.1.natAbs+(y2.2.2.2.length+(Int.natAbs ((y2.2.2.2.length:Int))+(Int.natAbs (0:Int)+(x1.2.2.2.2.1.length+(x1.2.2.2.2.2.1.length+(x1.2.2.2.2.2.2.1.natAbs+(x1.2.2.2.2.2.2.2.1.length+(x1.2.2.2.2.2.2.2.2.1.length+2)))))))))))) (x1.1,x1.2.1,x1.2.2.1,x1.2.2.2.1,y2.2.2.2,(y2.2.2.2.length:Int),0,x1.2.2.2.2.1,x1.2.2.2.2.2.1,x1.2.2.2.2.2.2.1,x1.2.2.2.2.2.2.2.1,x1.2.2.2.2.2.2.2.2.1,()) (kV)) fun v4=>
   again (v4.1,v4.2.1,v4.2.2.1,w64 (v4.2.2.2.1+1),v4.2.2.2.2.1,v4.2.2.2.2.2.1,v4.2.2.2.2.2.2.1,v4.2.2.2.2.2.2.2.1,v4.2.2.2.2.2.2.2.2.1,())
 else
  some (Sum.inr (x1.2.2.2.2.2.2.2.2.1,()))
def qO (a0:bg) (a1:List UInt8):Option ((List ah)×Int×Unit):=
 Option.bind (iu a0 a1 true) fun r1=>
 bif r1.1 != 0 then
  some ([],r1.1,())
 else
  bw (β:=((List ah)×Int×Unit)) (γ:=((List (bB×au))×Unit)) (
   iter (X:=iX) (β:=mu) (List.length a1+(a0.2.2.2.length+(Int.natAbs ((a0.2.2.2.length:Int))+(Int.natAbs (0:Int)+(a0.1.length+(a0.2.1.length+(a0.2.2.1.natAbs+(a0.2.2.2.length+(List.length ([]:List (bB×au))+2))))))))) (a1,a0.2.2.2,(a0.2.2.2.length:Int),0,a0.1,a0.2.1,a0.2.2.1,a0.2.2.2,[],()) (mq)) fun v9=>
  Option.bind (pG v9.1) fun r10=>
  some (r10.1,r10.2.1,())
end
end Go.Md
set_option linter.all false
namespace Go.Md
open Go.Dn
noncomputable section
end
end Go.Md
set_option linter.all false
namespace Go.Md
open Go.Dn
noncomputable section
abbrev iF:Type:=(List ah)×Int×Int×(List (bB×Bool))×Unit
abbrev mz:Type:=((Int×Unit) ⊕ Unit)
def iE (x1:iF) (again:iF→Option mz):Option mz:=
 bif decide (x1.2.2.1<x1.2.1) then
  Option.bind (idx x1.1 x1.2.2.1) fun y2=>
  Option.bind (dF y2.1) fun r3=>
  bif !r3.1 then
   some (Sum.inl (5,()))
  else
   Option.bind (dF y2.2.1) fun r4=>
   bif !r4.1 then
    some (Sum.inl (5,()))
   else
    bif Option.getD (α:=Bool) (bQ (k:=aB) (v:= .bool) x1.2.2.2.1 (y2.1,y2.2.1)) false then
     some (Sum.inl (7,()))
    else
     Option.bind (cc y2.2.2 false) fun r5=>
     bif r5.1 != 0 then
      some (Sum.inl (r5.1,()))
     else
      again (x1.1,x1.2.1,w64 (x1.2.2.1+1),fJ (k:=aB) (v:= .bool) x1.2.2.2.1 (y2.1,y2.2.1) true,())
 else
  some (Sum.inr ())
def kX (a0:List ah):Option (Int×Unit):=
 bw (β:=(Int×Unit)) (γ:=Unit) (
  iter (X:=iF) (β:=mz) (List.length a0+(Int.natAbs ((List.length a0:Int))+(Int.natAbs (0:Int)+(List.length ([]:List (bB×Bool))+2)))) (a0,(List.length a0:Int),0,[],()) (iE)) fun _=>
 some (0,())
def pH (a0:ah) (a1:ah):Option (Bool×Unit):=
 Option.bind (
  bif a0.1==a1.1 then
   some (a0.2.1==a1.2.1,())
  else
   some (false,())) fun v1=>
 some (v1.1,())
abbrev cq:Type:=(List ah)×ah×Int×Int×Unit
abbrev fK:Type:=((Int×Unit) ⊕ Unit)
def cZ (x1:cq) (again:cq→Option fK):Option fK:=
 bif decide (x1.2.2.2.1<x1.2.2.1) then
  Option.bind (idx x1.1 x1.2.2.2.1) fun y2=>
  Option.bind (pH y2 x1.2.1) fun r3=>
  bif r3.1 then
   some (Sum.inl (x1.2.2.2.1,()))
  else
   again (x1.1,x1.2.1,x1.2.2.1,w64 (x1.2.2.2.1+1),())
 else
  some (Sum.inr ())
def dn (a0:List ah) (a1:ah):Option (Int×Unit):=
 bw (β:=(Int×Unit)) (γ:=Unit) (
  iter (X:=cq) (β:=fK) (List.length a0+(Int.natAbs ((List.length a0:Int))+(Int.natAbs (0:Int)+2))) (a0,a1,(List.length a0:Int),0,()) (cZ)) fun _=>
 some ((-1),())
def eY (a0:ai):Option (Int×Unit):=
 Option.bind (eD a0 3) fun r1=>
 Option.bind (nu r1.1 1000000000000000000) fun r2=>
 some (r2.1,())
abbrev gN:Type:=(List ah)×Int×(List Int)×(List ah)×Int×Int×Unit
abbrev sP:Type:=((Int×(List Int)×Int×Unit) ⊕ (Int×(List Int)×Unit))
def jZ (x1:gN) (again:gN→Option sP):Option sP:=
 bif decide (x1.2.2.2.2.2.1<x1.2.2.2.2.1) then
  Option.bind (idx x1.2.2.2.1 x1.2.2.2.2.2.1) fun y2=>
  Option.bind (dn x1.1 y2) fun r3=>
  bif decide (r3.1<0) then
   some (Sum.inl (0,[],9,()))
  else
   Option.bind (idx x1.1 r3.1) fun y4=>
   Option.bind (eY y4.2.2) fun r5=>
   chk (decide (((x1.2.2.1.length)+1)*8≤140737488355328)&&decide ((x1.2.2.1.length)+1≤maxLen)) <|
   Option.bind (eY y2.2.2) fun r6=>
   chk (r5.1 != (0:Int)) <|
   let n7:Int:=w64 (Int.tdiv (w64 ((w64 (r6.1+r5.1)) - 1)) r5.1)
   again (x1.1,w64 (x1.2.1+n7),x1.2.2.1++[r5.1],x1.2.2.2.1,x1.2.2.2.2.1,w64 (x1.2.2.2.2.2.1+1),())
 else
  some (Sum.inr (x1.2.1,x1.2.2.1,()))
def oD (a0:List ah) (a1:List ah):Option (Int×(List Int)×Int×Unit):=
 bw (β:=(Int×(List Int)×Int×Unit)) (γ:=(Int×(List Int)×Unit)) (
  iter (X:=gN) (β:=sP) (List.length a1+(Int.natAbs (0:Int)+(List.length ([]:List Int)+(List.length a0+(Int.natAbs ((List.length a0:Int))+(Int.natAbs (0:Int)+2)))))) (a1,0,[],a0,(List.length a0:Int),0,()) (jZ)) fun v8=>
 some (v8.1,v8.2.1,0,())
def jY (a0:List UInt8) (a1:Int) (a2:Int):Option (Int×Unit):=
 bif a2==0 then
  some (0,())
 else
  Option.bind (eX a0 a1) fun r1=>
  bif r1.2.1 != 0 then
   some (r1.2.1,())
  else
   Option.bind (qz a0) fun r2=>
   bif decide (a2>(w64 (r2.1 - a1))) then
    some (1,())
   else
    some (0,())
def qP (a0:Int):Option (ai×Unit):=
 Option.bind (kR a0) fun r1=>
 Option.bind (mV r1.1 3) fun r2=>
 some (r2.1,())
abbrev iN:Type:=(List ah)×(List ah)×(List UInt8)×Int×Int×Int×(List (List ah))×Unit
abbrev lH:Type:=(((List aa)×Int×Unit) ⊕ ((List ah)×(List ah)×(List UInt8)×Int×Unit))
def lG (x1:iN) (again:iN→Option lH):Option lH:=
 bif decide (x1.2.2.2.2.2.1<x1.2.2.2.2.1) then
  chk (decide (0≤x1.2.2.2.2.2.1)&&decide (x1.2.2.2.2.2.1<(x1.2.2.2.2.2.2.1.length:Int))) <|
  Option.bind (x1.2.2.2.2.2.2.1[x1.2.2.2.2.2.1.toNat]?) fun y2=>
  Option.bind (kX y2) fun r3=>
  bif r3.1 != 0 then
   some (Sum.inl ([],r3.1,()))
  else
   again (x1.1,x1.2.1,x1.2.2.1,x1.2.2.2.1,x1.2.2.2.2.1,w64 (x1.2.2.2.2.2.1+1),x1.2.2.2.2.2.2.1,())
 else
  some (Sum.inr (x1.1,x1.2.1,x1.2.2.1,x1.2.2.2.1,()))
abbrev jX:Type:=(List UInt8)×Int×(List aa)×Int×Int×(List ah)×Int×Int×(List UInt8)×(List UInt8)×Int×Int×(List Int)×Unit
abbrev nX:Type:=((((List aa)×Int×Unit) ⊕ ((List aa)×Unit)) ⊕ ((List UInt8)×Int×(List aa)×(List ah)×Int×Int×(List Int)×Unit))
def sO (x1:jX) (again:jX→Option nX):Option nX:=
 bif decide (x1.2.2.2.2.1>0) then
  Option.bind (eX x1.1 (w64 (x1.2.1+((x1.2.2.1.length:Int))))) fun r2=>
  chk (decide (0≤x1.2.2.2.1)&&decide (x1.2.2.2.1<(x1.2.2.2.2.2.2.2.2.2.2.2.2.1.length:Int))) <|
  Option.bind (x1.2.2.2.2.2.2.2.2.2.2.2.2.1[x1.2.2.2.1.toNat]?) fun y3=>
  Option.bind (qP (if y3<x1.2.2.2.2.1 then y3 else x1.2.2.2.2.1)) fun r4=>
  chk (decide (((x1.2.2.1.length)+1)*72≤140737488355328)&&decide ((x1.2.2.1.length)+1≤maxLen)) <|
  chk (decide (0≤x1.2.2.2.1)&&decide (x1.2.2.2.1<(x1.2.2.2.2.2.2.2.2.2.2.2.2.1.length:Int))) <|
  Option.bind (x1.2.2.2.2.2.2.2.2.2.2.2.2.1[x1.2.2.2.1.toNat]?) fun y5=>
  again (x1.1,x1.2.1,x1.2.2.1++[(r2.1,[],(0,0),[(x1.2.2.2.2.2.2.2.2.1,x1.2.2.2.2.2.2.2.2.2.1,[],r4.1)])],x1.2.2.2.1,w64 (x1.2.2.2.2.1 - y5),x1.2.2.2.2.2.1,x1.2.2.2.2.2.2.1,x1.2.2.2.2.2.2.2.1,x1.2.2.2.2.2.2.2.2.1,x1.2.2.2.2.2.2.2.2.2.1,x1.2.2.2.2.2.2.2.2.2.2.1,x1.2.2.2.2.2.2.2.2.2.2.2.1,x1.2.2.2.2.2.2.2.2.2.2.2.2.1,())
 else
  some (Sum.inr (x1.1,x1.2.1,x1.2.2.1,x1.2.2.2.2.2.1,x1.2.2.2.2.2.2.1,x1.2.2.2.2.2.2.2.1,x1.2.2.2.2.2.2.2.2.2.2.2.2.1,()))
abbrev gM:Type:=(List UInt8)×Int×(List aa)×(List ah)×Int×Int×(List Int)×Unit
abbrev jW:Type:=(((List aa)×Int×Unit) ⊕ ((List aa)×Unit))
def gL (x1:gM) (again:gM→Option jW):Option jW:=
 bif decide (x1.2.2.2.2.2.1<x1.2.2.2.2.1) then
  Option.bind (idx x1.2.2.2.1 x1.2.2.2.2.2.1) fun y2=>
  Option.bind (eY y2.2.2) fun r3=>
  bw (β:=(((List aa)×Int×Unit) ⊕ ((List aa)×Unit))) (γ:=((List UInt8)×Int×(List aa)×(List ah)×Int×Int×(List Int)×Unit)) (
   iter (X:=jX) (β:=nX) (x1.1.length+(x1.2.1.natAbs+(x1.2.2.1.length+(x1.2.2.2.2.2.1.natAbs+(r3.1.natAbs+(x1.2.2.2.1.length+(x1.2.2.2.2.1.natAbs+(x1.2.2.2.2.2.1.natAbs+(y2.1.length+(y2.2.1.length+(y2.2.2.1.natAbs+(y2.2.2.2.natAbs+(x1.2.2.2.2.2.2.1.length+2))))))))))))) (x1.1,x1.2.1,x1.2.2.1,x1.2.2.2.2.2.1,r3.1,x1.2.2.2.1,x1.2.2.2.2.1,x1.2.2.2.2.2.1,y2.1,y2.2.1,y2.2.2.1,y2.2.2.2,x1.2.2.2.2.2.2.1,()) (sO)) fun v4=>
  again (v4.1,v4.2.1,v4.2.2.1,v4.2.2.2.1,v4.2.2.2.2.1,w64 (v4.2.2.2.2.2.1+1),v4.2.2.2.2.2.2.1,())
 else
  some (Sum.inr (x1.2.2.1,()))
def qy (a0:List ah) (a1:List ah) (a2:List UInt8) (a3:Int):Option ((List aa)×Int×Unit):=
 bif decide (((List.length a0:Int))>100) then
  some ([],2,())
 else
  bif decide (((List.length a1:Int))>100) then
   some ([],2,())
  else
   bw (β:=((List aa)×Int×Unit)) (γ:=((List ah)×(List ah)×(List UInt8)×Int×Unit)) (
    iter (X:=iN) (β:=lH) (List.length a0+(List.length a1+(List.length a2+(Int.natAbs a3+(Int.natAbs ((List.length [a0,a1]:Int))+(Int.natAbs (0:Int)+(List.length ([a0,a1]:List (List ah))+2))))))) (a0,a1,a2,a3,(List.length [a0,a1]:Int),0,[a0,a1],()) (lG)) fun v4=>
   Option.bind (oD v4.1 v4.2.1) fun r5=>
   bif r5.2.2.1 != 0 then
    some ([],r5.2.2.1,())
   else
    Option.bind (jY v4.2.2.1 v4.2.2.2.1 r5.1) fun r6=>
    bif r6.1 != 0 then
     some ([],r6.1,())
    else
     bif decide (r5.1>500) then
      some ([],2,())
     else
      bw (β:=((List aa)×Int×Unit)) (γ:=((List aa)×Unit)) (
       iter (X:=gM) (β:=jW) (v4.2.2.1.length+(v4.2.2.2.1.natAbs+(List.length ([]:List aa)+(v4.1.length+(Int.natAbs ((v4.1.length:Int))+(Int.natAbs (0:Int)+(r5.2.1.length+2))))))) (v4.2.2.1,v4.2.2.2.1,[],v4.1,(v4.1.length:Int),0,r5.2.1,()) (gL)) fun v16=>
      some (v16.1,0,())
end
end Go.Md
set_option linter.all false
namespace Go.Md
open Go.Dn
noncomputable section
abbrev lK:Type:=(List UInt8)×(List UInt8)×(List ah)×Int×Int×Unit
abbrev tV:Type:=((Int×Unit) ⊕ Unit)
def tU (x1:lK) (again:lK→Option tV):Option tV:=
 bif decide (x1.2.2.2.2.1<x1.2.2.2.1) then
  Option.bind (idx x1.2.2.1 x1.2.2.2.2.1) fun y2=>
  Option.bind (
   bif y2.1==x1.1 then
    some (y2.2.1==x1.2.1,())
   else
    some (false,())) fun v3=>
  bif v3.1 then
   some (Sum.inl (x1.2.2.2.2.1,()))
  else
   again (x1.1,x1.2.1,x1.2.2.1,x1.2.2.2.1,w64 (x1.2.2.2.2.1+1),())
 else
  some (Sum.inr ())
def zo (a0:List ah) (a1:List UInt8) (a2:List UInt8):Option (Int×Unit):=
 bw (β:=(Int×Unit)) (γ:=Unit) (
  iter (X:=lK) (β:=tV) (List.length a1+(List.length a2+(List.length a0+(Int.natAbs ((List.length a0:Int))+(Int.natAbs (0:Int)+2))))) (a1,a2,a0,(List.length a0:Int),0,()) (tU)) fun _=>
 some ((-1),())
def uF (a0:List ah) (a1:ah):Option (Int×Unit):=
 Option.bind (zo a0 a1.1 a1.2.1) fun r1=>
 some (r1.1,())
abbrev dG:Type:=(List ah)×(List ah)×Int×Int×Unit
abbrev iD:Type:=((Bool×Unit) ⊕ Unit)
def eZ (x1:dG) (again:dG→Option iD):Option iD:=
 bif decide (x1.2.2.2.1<x1.2.2.1) then
  Option.bind (idx x1.2.1 x1.2.2.2.1) fun y2=>
  Option.bind (uF x1.1 y2) fun r3=>
  bif decide (r3.1<0) then
   some (Sum.inl (false,()))
  else
   Option.bind (idx x1.1 r3.1) fun y4=>
   Option.bind (sQ y4.2.2 y2.2.2) fun r5=>
   bif !r5.1 then
    some (Sum.inl (false,()))
   else
    Option.bind (idx x1.1 r3.1) fun y6=>
    Option.bind (sQ y2.2.2 y6.2.2) fun r7=>
    bif !r7.1 then
     some (Sum.inl (false,()))
    else
     again (x1.1,x1.2.1,x1.2.2.1,w64 (x1.2.2.2.1+1),())
 else
  some (Sum.inr ())
def gq (a0:List ah) (a1:List ah) (a2:List UInt8) (a3:Int):Option (Bool×Unit):=
 Option.bind (qy a0 a1 a2 a3) fun r1=>
 bif r1.2.1 != 0 then
  Option.bind (
   bif ((r1.1.length:Int))==0 then
    Option.bind (yO) fun r2=>
    some (r2.1,())
   else
    some (false,())) fun v3=>
  some (v3.1,())
 else
  Option.bind (qO ([97],[111],1,r1.1) []) fun r4=>
  Option.bind (gC ([97],[111],1,r1.1)) fun r5=>
  bif r5.1 != 0 then
   some (false,())
  else
   bif r4.2.1 != 0 then
    some (false,())
   else
    bif ((r4.1.length:Int)) != ((List.length a0:Int)) then
     some (false,())
    else
     bw (β:=(Bool×Unit)) (γ:=Unit) (
      iter (X:=dG) (β:=iD) (r4.1.length+(List.length a0+(Int.natAbs ((List.length a0:Int))+(Int.natAbs (0:Int)+2)))) (r4.1,a0,(List.length a0:Int),0,()) (eZ)) fun _=>
     Option.bind (yO) fun r14=>
     some (r14.1,())
end
end Go.Md
