/-
  The plain models of the functions that the law reaches, third part. No condition.
-/
import Derived.Test.YtfeonoiibclkiabGreatDoorYn
import Derived.Test.YtfeonoiibclkiabGreatDoorYa
set_option linter.all false
set_option linter.all false
namespace Go.Md
open Go.Dn
def gQ (a b:List UInt8×List UInt8):Int:=bif Lib.compareBytes a.1 b.1==0 then Lib.compareBytes a.2 b.2 else Lib.compareBytes a.1 b.1
noncomputable section
abbrev jb:Ty:=(.st (.pair .str (.pair .str cz)))
abbrev bp:Type:=(List UInt8)×(List UInt8)×az
def dM (a0:List (aD×ai)) (a1:aD) (a2:az):Option ((List (aD×ai))×Unit):=
 bif !(Option.isSome (b9 (k:=aG) (v:=aA) a0 a1)) then
  Option.bind (nG 0) fun r1=>
  Option.bind (gm a2 9) fun r2=>
  Option.bind (gN r1.1 r2.1) fun r3=>
  some (jE (k:=aG) (v:=aA) a0 a1 r3.1,())
 else
  Option.bind (gm a2 9) fun r4=>
  Option.bind (gN (Option.getD (α:=ai) (b9 (k:=aG) (v:=aA) a0 a1) (false,[])) r4.1) fun r5=>
  some (jE (k:=aG) (v:=aA) a0 a1 r5.1,())
abbrev jT:Type:=(List bp)×Int×Int×(List aD)×(List (aD×ai))×Unit
abbrev jS:Type:=(((List bp)×Int×(List (aD×ai))×Unit) ⊕ ((List bp)×(List (aD×ai))×Unit))
def iq (x1:jT) (again:jT→Option jS):Option jS:=
 bif decide (x1.2.2.1<x1.2.1) then
  chk (decide (0≤x1.2.2.1)&&decide (x1.2.2.1<(x1.2.2.2.1.length:Int))) <|
  Option.bind (x1.2.2.2.1[x1.2.2.1.toNat]?) fun y2=>
  Option.bind (xF (Option.getD (α:=ai) (b9 (k:=aG) (v:=aA) x1.2.2.2.2.1 y2) (false,[]))) fun r3=>
  bif r3.2.1 != 0 then
   some (Sum.inl ([],r3.2.1,x1.2.2.2.2.1,()))
  else
   bif r3.1.1 != 0 then
    chk (decide (((x1.1.length)+1)*48≤140737488355328)&&decide ((x1.1.length)+1≤maxLen)) <|
    again (x1.1++[(y2.1,y2.2,r3.1)],x1.2.1,w64 (x1.2.2.1+1),x1.2.2.2.1,x1.2.2.2.2.1,())
   else
    again (x1.1,x1.2.1,w64 (x1.2.2.1+1),x1.2.2.2.1,x1.2.2.2.2.1,())
 else
  some (Sum.inr (x1.1,x1.2.2.2.2.1,()))
def oo (a0:List (aD×ai)):Option ((List bp)×Int×(List (aD×ai))×Unit):=
 chk (zB gQ a0) <|
 aW (β:=((List bp)×Int×(List (aD×ai))×Unit)) (γ:=((List bp)×(List (aD×ai))×Unit)) (
  iter (X:=jT) (β:=jS) (List.length ([]:List bp)+(Int.natAbs ((List.length (mJ gQ a0):Int))+(Int.natAbs (0:Int)+(List.length ((mJ gQ a0):List aD)+(List.length a0+2))))) ([],(List.length (mJ gQ a0):Int),0,mJ gQ a0,a0,()) (iq)) fun v4=>
 some (v4.1,0,v4.2.1,())
abbrev jR:Type:=(List UInt8)×(List ah)×Int×Int×(List aj)×Int×Int×(List UInt8)×(List UInt8)×Int×(List ah)×(List (aD×ai))×Unit
abbrev nM:Type:=((((List bp)×Int×Unit) ⊕ ((List (aD×ai))×Unit)) ⊕ ((List UInt8)×(List ah)×Int×Int×(List UInt8)×(List UInt8)×Int×(List ah)×(List (aD×ai))×Unit))
def nL (x1:jR) (again:jR→Option nM):Option nM:=
 bif decide (x1.2.2.2.2.2.2.1<x1.2.2.2.2.2.1) then
  Option.bind (idx x1.2.2.2.2.1 x1.2.2.2.2.2.2.1) fun y2=>
  Option.bind (dM x1.2.2.2.2.2.2.2.2.2.2.2.1 (y2.1,y2.2.1) y2.2.2.2) fun r3=>
  again (x1.1,x1.2.1,x1.2.2.1,x1.2.2.2.1,x1.2.2.2.2.1,x1.2.2.2.2.2.1,w64 (x1.2.2.2.2.2.2.1+1),x1.2.2.2.2.2.2.2.1,x1.2.2.2.2.2.2.2.2.1,x1.2.2.2.2.2.2.2.2.2.1,x1.2.2.2.2.2.2.2.2.2.2.1,r3.1,())
 else
  some (Sum.inr (x1.1,x1.2.1,x1.2.2.1,x1.2.2.2.1,x1.2.2.2.2.2.2.2.1,x1.2.2.2.2.2.2.2.2.1,x1.2.2.2.2.2.2.2.2.2.1,x1.2.2.2.2.2.2.2.2.2.2.1,x1.2.2.2.2.2.2.2.2.2.2.2.1,()))
abbrev kX:Type:=(List UInt8)×(List ah)×Int×Int×(List UInt8)×(List UInt8)×Int×(List ah)×(List (aD×ai))×Unit
abbrev pG:Type:=(((List bp)×Int×Unit) ⊕ ((List (aD×ai))×Unit))
def pF (x1:kX) (again:kX→Option pG):Option pG:=
 bif decide (x1.2.2.2.1<x1.2.2.1) then
  Option.bind (idx x1.2.1 x1.2.2.2.1) fun y2=>
  Option.bind (iN (x1.2.2.2.2.1,x1.2.2.2.2.2.1,x1.2.2.2.2.2.2.1,x1.2.2.2.2.2.2.2.1) x1.2.2.2.1 x1.1) fun r3=>
  bif !r3.1 then
   again (x1.1,x1.2.1,x1.2.2.1,w64 (x1.2.2.2.1+1),x1.2.2.2.2.1,x1.2.2.2.2.2.1,x1.2.2.2.2.2.2.1,x1.2.2.2.2.2.2.2.1,x1.2.2.2.2.2.2.2.2.1,())
  else
   aW (β:=(((List bp)×Int×Unit) ⊕ ((List (aD×ai))×Unit))) (γ:=((List UInt8)×(List ah)×Int×Int×(List UInt8)×(List UInt8)×Int×(List ah)×(List (aD×ai))×Unit)) (
    iter (X:=jR) (β:=nM) (x1.1.length+(x1.2.1.length+(x1.2.2.1.natAbs+(x1.2.2.2.1.natAbs+(y2.2.2.2.length+(Int.natAbs ((y2.2.2.2.length:Int))+(Int.natAbs (0:Int)+(x1.2.2.2.2.1.length+(x1.2.2.2.2.2.1.length+(x1.2.2.2.2.2.2.1.natAbs+(x1.2.2.2.2.2.2.2.1.length+(x1.2.2.2.2.2.2.2.2.1.length+2)))))))))))) (x1.1,x1.2.1,x1.2.2.1,x1.2.2.2.1,y2.2.2.2,(y2.2.2.2.length:Int),0,x1.2.2.2.2.1,x1.2.2.2.2.2.1,x1.2.2.2.2.2.2.1,x1.2.2.2.2.2.2.2.1,x1.2.2.2.2.2.2.2.2.1,()) (nL)) fun v4=>
   again (v4.1,v4.2.1,v4.2.2.1,w64 (v4.2.2.2.1+1),v4.2.2.2.2.1,v4.2.2.2.2.2.1,v4.2.2.2.2.2.2.1,v4.2.2.2.2.2.2.2.1,v4.2.2.2.2.2.2.2.2.1,())
 else
  some (Sum.inr (x1.2.2.2.2.2.2.2.2.1,()))
def ux (a0:aq) (a1:List UInt8):Option ((List bp)×Int×Unit):=
 Option.bind (jU a0 a1 true) fun r1=>
 bif r1.1 != 0 then
  some ([],r1.1,())
 else
  aW (β:=((List bp)×Int×Unit)) (γ:=((List (aD×ai))×Unit)) (
   iter (X:=kX) (β:=pG) (List.length a1+(a0.2.2.2.length+(Int.natAbs ((a0.2.2.2.length:Int))+(Int.natAbs (0:Int)+(a0.1.length+(a0.2.1.length+(a0.2.2.1.natAbs+(a0.2.2.2.length+(List.length ([]:List (aD×ai))+2))))))))) (a1,a0.2.2.2,(a0.2.2.2.length:Int),0,a0.1,a0.2.1,a0.2.2.1,a0.2.2.2,[],()) (pF)) fun v9=>
  Option.bind (oo v9.1) fun r10=>
  some (r10.1,r10.2.1,())
end
end Go.Md
set_option linter.all false
namespace Go.Md
open Go.Dn
noncomputable section
end
end Go.Md
set_option linter.all false
namespace Go.Md
open Go.Dn
noncomputable section
abbrev aa:Type:=Int×(List UInt8)×(List UInt8)×(List UInt8)×(List UInt8)×az
abbrev au:Type:=(List UInt8)×Bool×(List aj)×(List aj)
abbrev ez:Type:=aq×(List au)
def DY (_a0:ah) (_a1:au):Option ((List aa)×Int×Unit):=none
def yO (_a0:Int) (_a1:List UInt8) (_a2:aj) (_a3:ai):Option (aa×Int×Unit):=none
abbrev ax:Ty:=(.st (.pair tI (.pair .str (.pair .str (.pair .str (.pair .str cz))))))
abbrev bE:Ty:=(.st (.pair .str (.pair .bool (.pair (.slice bu) (.slice bu)))))
abbrev iQ:Ty:=(.st (.pair bF (.slice bE)))
abbrev qy:Type:=(List au)×(List ah)×Int×Int×Unit
abbrev yA:Type:=(((List au)×Unit) ⊕ ((List au)×Unit))
def uy (x1:qy) (again:qy→Option yA):Option yA:=
 bif decide (x1.2.2.2.1<x1.2.2.1) then
  Option.bind (idx x1.2.1 x1.2.2.2.1) fun y2=>
  bif y2.2.1==[] then
   chk (decide (((x1.1.length)+1)*72≤140737488355328)&&decide ((x1.1.length)+1≤maxLen)) <|
   again (x1.1++[(y2.1,true,[],[])],x1.2.1,x1.2.2.1,w64 (x1.2.2.2.1+1),())
  else
   again (x1.1,x1.2.1,x1.2.2.1,w64 (x1.2.2.2.1+1),())
 else
  some (Sum.inr (x1.1,()))
def v8 (a0:aq):Option ((List au)×Unit):=
 aW (β:=((List au)×Unit)) (γ:=((List au)×Unit)) (
  iter (X:=qy) (β:=yA) (List.length ([]:List au)+(a0.2.2.2.length+(Int.natAbs ((a0.2.2.2.length:Int))+(Int.natAbs (0:Int)+2)))) ([],a0.2.2.2,(a0.2.2.2.length:Int),0,()) (uy)) fun v3=>
 some (v3.1,())
abbrev cG:Type:=(List aj)×Unit×Int×Int×Int×(List UInt8)×(List UInt8)×(List UInt8)×Int×Int×Unit
abbrev cF:Type:=((Int×Bool×Unit) ⊕ ((List aj)×Unit×Int×Int×(List UInt8)×(List UInt8)×(List UInt8)×Int×Int×Unit))
def kz (x1:cG) (again:cG→Option cF):Option cF:=
 bif decide (x1.2.2.2.1<x1.2.2.2.2.1) then
  let n2:Int:=w64 (Int.fdiv (bI (w64 (x1.2.2.2.1+x1.2.2.2.2.1))) (2 ^ 1))
  Option.bind (idx x1.1 n2) fun y3=>
  Option.bind (dD y3 (x1.2.2.2.2.2.1,x1.2.2.2.2.2.2.1,x1.2.2.2.2.2.2.2.1,x1.2.2.2.2.2.2.2.2.1,x1.2.2.2.2.2.2.2.2.2.1)) fun r4=>
  bif decide (r4.1<0) then
   again (x1.1,x1.2.1,x1.2.2.1,w64 (n2+1),x1.2.2.2.2.1,x1.2.2.2.2.2.1,x1.2.2.2.2.2.2.1,x1.2.2.2.2.2.2.2.1,x1.2.2.2.2.2.2.2.2.1,x1.2.2.2.2.2.2.2.2.2.1,())
  else
   again (x1.1,x1.2.1,x1.2.2.1,x1.2.2.2.1,n2,x1.2.2.2.2.2.1,x1.2.2.2.2.2.2.1,x1.2.2.2.2.2.2.2.1,x1.2.2.2.2.2.2.2.2.1,x1.2.2.2.2.2.2.2.2.2.1,())
 else
  some (Sum.inr (x1.1,x1.2.1,x1.2.2.1,x1.2.2.2.1,x1.2.2.2.2.2.1,x1.2.2.2.2.2.2.1,x1.2.2.2.2.2.2.2.1,x1.2.2.2.2.2.2.2.2.1,x1.2.2.2.2.2.2.2.2.2.1,()))
def fM (a0:List aj) (a1:aj) (a2:Unit):Option (Int×Bool×Unit):=
 aW (β:=(Int×Bool×Unit)) (γ:=((List aj)×Unit×Int×Int×(List UInt8)×(List UInt8)×(List UInt8)×Int×Int×Unit)) (
  iter (X:=cG) (β:=cF) (List.length a0+(Int.natAbs ((List.length a0:Int))+(Int.natAbs (0:Int)+(Int.natAbs ((List.length a0:Int))+(a1.1.length+(a1.2.1.length+(a1.2.2.1.length+(a1.2.2.2.1.natAbs+(a1.2.2.2.2.natAbs+2))))))))) (a0,a2,(List.length a0:Int),0,(List.length a0:Int),a1.1,a1.2.1,a1.2.2.1,a1.2.2.2.1,a1.2.2.2.2,()) (kz)) fun v5=>
 bif decide (v5.2.2.2.1<v5.2.2.1) then
  Option.bind (idx v5.1 v5.2.2.2.1) fun y6=>
  Option.bind (dD y6 (v5.2.2.2.2.1,v5.2.2.2.2.2.1,v5.2.2.2.2.2.2.1,v5.2.2.2.2.2.2.2.1,v5.2.2.2.2.2.2.2.2.1)) fun r7=>
  some (v5.2.2.2.1,r7.1==0,())
 else
  some (v5.2.2.2.1,false,())
def yQ (a0:List aj) (a1:aj):Option (ai×Unit):=
 Option.bind (fM a0 a1 ()) fun r1=>
 bif !r1.2.1 then
  Option.bind (nG 0) fun r2=>
  some (r2.1,())
 else
  Option.bind (idx a0 r1.1) fun y3=>
  Option.bind (vC y3.2.2.2) fun r4=>
  some (r4.1,())
abbrev lW:Type:=Int×Int×(List UInt8)×Bool×(List aj)×(List aj)×(List (List aj))×Unit
abbrev qU:Type:=((Int×Unit) ⊕ ((List UInt8)×Bool×(List aj)×(List aj)×Unit))
def lV (x1:lW) (again:lW→Option qU):Option qU:=
 bif decide (x1.2.1<x1.1) then
  chk (decide (0≤x1.2.1)&&decide (x1.2.1<(x1.2.2.2.2.2.2.1.length:Int))) <|
  Option.bind (x1.2.2.2.2.2.2.1[x1.2.1.toNat]?) fun y2=>
  Option.bind (fP y2) fun r3=>
  bif r3.1 != 0 then
   some (Sum.inl (r3.1,()))
  else
   again (x1.1,w64 (x1.2.1+1),x1.2.2.1,x1.2.2.2.1,x1.2.2.2.2.1,x1.2.2.2.2.2.1,x1.2.2.2.2.2.2.1,())
 else
  some (Sum.inr (x1.2.2.1,x1.2.2.2.1,x1.2.2.2.2.1,x1.2.2.2.2.2.1,()))
abbrev kr:Type:=(List aj)×Int×Int×(List UInt8)×Bool×(List aj)×(List aj)×Unit
abbrev pM:Type:=((Int×Unit) ⊕ Unit)
def pL (x1:kr) (again:kr→Option pM):Option pM:=
 bif decide (x1.2.2.1<x1.2.1) then
  Option.bind (idx x1.1 x1.2.2.1) fun y2=>
  Option.bind (vC y2.2.2.2) fun r3=>
  Option.bind (yQ x1.2.2.2.2.2.1 y2) fun r4=>
  Option.bind (yR r3.1 r4.1) fun r5=>
  bif decide (r5.1>0) then
   some (Sum.inl (12,()))
  else
   again (x1.1,x1.2.1,w64 (x1.2.2.1+1),x1.2.2.2.1,x1.2.2.2.2.1,x1.2.2.2.2.2.1,x1.2.2.2.2.2.2.1,())
 else
  some (Sum.inr ())
def pK (a0:List au) (a1:Int):Option (Int×Unit):=
 Option.bind (idx a0 a1) fun y1=>
 Option.bind (oq y1.1) fun r2=>
 bif !r2.1 then
  some (3,())
 else
  Option.bind (
   bif decide (a1>0) then
    Option.bind (idx a0 (w64 (a1 - 1))) fun y3=>
    some (Op.bytesLess y1.1 y3.1||y1.1==y3.1,())
   else
    some (false,())) fun v4=>
  bif v4.1 then
   some (8,())
  else
   Option.bind (
    bif y1.2.1 then
     some (decide ((w64 (((y1.2.2.1.length:Int))+((y1.2.2.2.length:Int))))>0),())
    else
     some (false,())) fun v5=>
   bif v5.1 then
    some (3,())
   else
    aW (β:=(Int×Unit)) (γ:=((List UInt8)×Bool×(List aj)×(List aj)×Unit)) (
     iter (X:=lW) (β:=qU) (Int.natAbs ((List.length [y1.2.2.1,y1.2.2.2]:Int))+(Int.natAbs (0:Int)+(y1.1.length+(y1.2.2.1.length+(y1.2.2.2.length+(List.length ([y1.2.2.1,y1.2.2.2]:List (List aj))+2)))))) ((List.length [y1.2.2.1,y1.2.2.2]:Int),0,y1.1,y1.2.1,y1.2.2.1,y1.2.2.2,[y1.2.2.1,y1.2.2.2],()) (lV)) fun v9=>
    aW (β:=(Int×Unit)) (γ:=Unit) (
     iter (X:=kr) (β:=pM) (v9.2.2.2.1.length+(Int.natAbs ((v9.2.2.2.1.length:Int))+(Int.natAbs (0:Int)+(v9.1.length+(v9.2.2.1.length+(v9.2.2.2.1.length+2)))))) (v9.2.2.2.1,(v9.2.2.2.1.length:Int),0,v9.1,v9.2.1,v9.2.2.1,v9.2.2.2.1,()) (pL)) fun _=>
    some (0,())
abbrev ia:Type:=(List au)×Int×Int×Unit
abbrev pE:Type:=((Int×Unit) ⊕ Unit)
def ki (x1:ia) (again:ia→Option pE):Option pE:=
 bif decide (x1.2.2.1<x1.2.1) then
  Option.bind (pK x1.1 x1.2.2.1) fun r2=>
  bif r2.1 != 0 then
   some (Sum.inl (r2.1,()))
  else
   again (x1.1,x1.2.1,w64 (x1.2.2.1+1),())
 else
  some (Sum.inr ())
def jQ (a0:List au):Option (Int×Unit):=
 bif decide (((List.length a0:Int))>500) then
  some (2,())
 else
  aW (β:=(Int×Unit)) (γ:=Unit) (
   iter (X:=ia) (β:=pE) (List.length a0+(Int.natAbs ((List.length a0:Int))+(Int.natAbs (0:Int)+2))) (a0,(List.length a0:Int),0,()) (ki)) fun _=>
  some (0,())
def kY (a0:aq) (a1:List au):Option ((aq×(List au)×Unit)×Int×Unit):=
 Option.bind (gI a0) fun r1=>
 bif r1.1 != 0 then
  none
 else
  Option.bind (jQ a1) fun r2=>
  bif r2.1 != 0 then
   none
  else
   some ((a0,a1,()),0,())
def fH (a0:aq) (a1:List au):Option ((Option Nat)×Int×Unit):=
 Option.bind (gI a0) fun r1=>
 bif r1.1 != 0 then
  some (none,r1.1,())
 else
  Option.bind (jQ a1) fun r2=>
  bif r2.1 != 0 then
   some (none,r2.1,())
  else
   none
def om (a0:au) (a1:List UInt8):Option (Int×Unit):=
 Option.bind (strings_Compare a0.1 a1) fun r1=>
 some (r1.1,())
abbrev bU:Type:=(List au)×(List UInt8)×Unit×Int×Int×Int×Unit
abbrev dO:Type:=((Int×Bool×Unit) ⊕ ((List au)×(List UInt8)×Unit×Int×Int×Unit))
def dN (x1:bU) (again:bU→Option dO):Option dO:=
 bif decide (x1.2.2.2.2.1<x1.2.2.2.2.2.1) then
  let n2:Int:=w64 (Int.fdiv (bI (w64 (x1.2.2.2.2.1+x1.2.2.2.2.2.1))) (2 ^ 1))
  Option.bind (idx x1.1 n2) fun y3=>
  Option.bind (om y3 x1.2.1) fun r4=>
  bif decide (r4.1<0) then
   again (x1.1,x1.2.1,x1.2.2.1,x1.2.2.2.1,w64 (n2+1),x1.2.2.2.2.2.1,())
  else
   again (x1.1,x1.2.1,x1.2.2.1,x1.2.2.2.1,x1.2.2.2.2.1,n2,())
 else
  some (Sum.inr (x1.1,x1.2.1,x1.2.2.1,x1.2.2.2.1,x1.2.2.2.2.1,()))
def bZ (a0:List au) (a1:List UInt8) (a2:Unit):Option (Int×Bool×Unit):=
 aW (β:=(Int×Bool×Unit)) (γ:=((List au)×(List UInt8)×Unit×Int×Int×Unit)) (
  iter (X:=bU) (β:=dO) (List.length a0+(List.length a1+(Int.natAbs ((List.length a0:Int))+(Int.natAbs (0:Int)+(Int.natAbs ((List.length a0:Int))+2))))) (a0,a1,a2,(List.length a0:Int),0,(List.length a0:Int),()) (dN)) fun v5=>
 bif decide (v5.2.2.2.2.1<v5.2.2.2.1) then
  Option.bind (idx v5.1 v5.2.2.2.2.1) fun y6=>
  Option.bind (om y6 v5.2.1) fun r7=>
  some (v5.2.2.2.2.1,r7.1==0,())
 else
  some (v5.2.2.2.2.1,false,())
def fW (a0:ez) (a1:List UInt8):Option (au×Bool×Unit):=
 Option.bind (bZ a0.2 a1 ()) fun r1=>
 bif !r1.2.1 then
  some (([],false,[],[]),false,())
 else
  Option.bind (idx a0.2 r1.1) fun y2=>
  some (y2,true,())
def fD (a0:aq×(List au)×Unit) (a1:List UInt8):Option (au×Bool×(aq×(List au)×Unit)×Unit):=
 Option.bind (bZ a0.2.1 a1 ()) fun r1=>
 bif !r1.2.1 then
  some (([],false,[],[]),false,(a0.1,a0.2.1,()),())
 else
  Option.bind (idx a0.2.1 r1.1) fun y2=>
  some (y2,true,(a0.1,a0.2.1,()),())
def bT (self:(ez×Int×Unit)→Option (Bool×Unit)) (a0:ez) (a1:Int):Option (Bool×Unit):=
 Option.bind (idx a0.1.2.2.2 a1) fun y1=>
 Option.bind (fW a0 y1.1) fun r2=>
 bif r2.2.1 then
  some (true,())
 else
  Option.bind (idx a0.1.2.2.2 a1) fun y3=>
  bif y3.2.1==[] then
   some (false,())
  else
   Option.bind (fU a0.1 y3.2.1) fun r4=>
   Option.bind (fW a0 y3.2.1) fun r5=>
   Option.bind (self (a0,r4.1,())) fun r6=>
   bif r6.1 then
    bif !r5.2.1 then
     some (true,())
    else
     some (r5.1.2.1,())
   else
    some (false,())
def kZ (a0:ez) (a1:Int):Nat:=a0.1.1.length+(a0.1.2.1.length+(a0.1.2.2.1.natAbs+(a0.1.2.2.2.length+(a0.2.length+(Int.natAbs a1+2)))))
def dK (a0:ez) (a1:Int):Option (Bool×Unit):=
 wg (fun self x=>bT self x.1 x.2.1) (kZ a0 a1) (a0,a1,())
def Ar (a0:Int) (a1:ez):Option (Bool×Unit):=
 Option.bind (dK a1 a0) fun r1=>
 some (!r1.1,())
abbrev kE:Type:=(List Int)×ez×Int×Int×Unit
abbrev kD:Type:=((Int×Unit) ⊕ Unit)
def zu (x1:kE) (again:kE→Option kD):Option kD:=
 bif decide (x1.2.2.2.1<x1.2.2.1) then
  Option.bind (idx x1.1 x1.2.2.2.1) fun y2=>
  Option.bind (Ar y2 x1.2.1) fun r3=>
  bif r3.1 then
   some (Sum.inl (x1.2.2.2.1,()))
  else
   again (x1.1,x1.2.1,x1.2.2.1,w64 (x1.2.2.2.1+1),())
 else
  some (Sum.inr ())
def ua (a0:List Int) (a1:ez):Option (Int×Unit):=
 aW (β:=(Int×Unit)) (γ:=Unit) (
  iter (X:=kE) (β:=kD) (List.length a0+(Int.natAbs ((List.length a0:Int))+(Int.natAbs (0:Int)+2))) (a0,a1,(List.length a0:Int),0,()) (zu)) fun _=>
 some ((-1),())
def rD (a0:List Int) (a1:ez):Option (Bool×Unit):=
 Option.bind (ua a0 a1) fun r1=>
 some (decide (r1.1≥0),())
abbrev gu:Type:=(List aa)×(List aj)×Int×Int×(List UInt8)×Bool×(List aj)×(List aj)×(List UInt8)×(List UInt8)×Int×(List ah)×(List au)×Unit
abbrev jG:Type:=(((List aa)×Int×(aq×(List au)×Unit)×Unit) ⊕ ((List aa)×(List UInt8)×(List UInt8)×Int×(List ah)×(List au)×Unit))
def jF (x1:gu) (again:gu→Option jG):Option jG:=
 bif decide (x1.2.2.2.1<x1.2.2.1) then
  Option.bind (idx x1.2.1 x1.2.2.2.1) fun y2=>
  Option.bind (vC y2.2.2.2) fun r3=>
  Option.bind (yO 5 x1.2.2.2.2.1 y2 r3.1) fun r4=>
  bif r4.2.1 != 0 then
   some (Sum.inl ([],r4.2.1,((x1.2.2.2.2.2.2.2.2.1,x1.2.2.2.2.2.2.2.2.2.1,x1.2.2.2.2.2.2.2.2.2.2.1,x1.2.2.2.2.2.2.2.2.2.2.2.1),x1.2.2.2.2.2.2.2.2.2.2.2.2.1,()),()))
  else
   none
 else
  some (Sum.inr (x1.1,x1.2.2.2.2.2.2.2.2.1,x1.2.2.2.2.2.2.2.2.2.1,x1.2.2.2.2.2.2.2.2.2.2.1,x1.2.2.2.2.2.2.2.2.2.2.2.1,x1.2.2.2.2.2.2.2.2.2.2.2.2.1,()))
def gj (a0:aq×(List au)×Unit) (a1:au):Option ((List aa)×Int×(aq×(List au)×Unit)×Unit):=
 Option.bind (fU a0.1 a1.1) fun r1=>
 aW (β:=((List aa)×Int×(aq×(List au)×Unit)×Unit)) (γ:=((List aa)×(List UInt8)×Bool×(List aj)×(List aj)×(List UInt8)×(List UInt8)×Int×(List ah)×(List au)×Unit)) (
  bif !r1.2.1 then
   some (Sum.inr ([(2,a1.1,[],[],[],0,0)],a1.1,a1.2.1,a1.2.2.1,a1.2.2.2,a0.1.1,a0.1.2.1,a0.1.2.2.1,a0.1.2.2.2,a0.2.1,()))
  else
   bif !a1.2.1 then
    Option.bind (idx a0.1.2.2.2 r1.1) fun y2=>
    Option.bind (DY y2 a1) fun r3=>
    bif r3.2.1 != 0 then
     some (Sum.inl ([],r3.2.1,(a0.1,a0.2.1,()),()))
    else
     some (Sum.inr (r3.1,a1.1,a1.2.1,a1.2.2.1,a1.2.2.2,a0.1.1,a0.1.2.1,a0.1.2.2.1,a0.1.2.2.2,a0.2.1,()))
   else
    some (Sum.inr ([],a1.1,a1.2.1,a1.2.2.1,a1.2.2.2,a0.1.1,a0.1.2.1,a0.1.2.2.1,a0.1.2.2.2,a0.2.1,()))) fun v4=>
 aW (β:=((List aa)×Int×(aq×(List au)×Unit)×Unit)) (γ:=((List aa)×(List UInt8)×(List UInt8)×Int×(List ah)×(List au)×Unit)) (
  iter (X:=gu) (β:=jG) (v4.1.length+(v4.2.2.2.2.1.length+(Int.natAbs ((v4.2.2.2.2.1.length:Int))+(Int.natAbs (0:Int)+(v4.2.1.length+(v4.2.2.2.1.length+(v4.2.2.2.2.1.length+(v4.2.2.2.2.2.1.length+(v4.2.2.2.2.2.2.1.length+(v4.2.2.2.2.2.2.2.1.natAbs+(v4.2.2.2.2.2.2.2.2.1.length+(v4.2.2.2.2.2.2.2.2.2.1.length+2)))))))))))) (v4.1,v4.2.2.2.2.1,(v4.2.2.2.2.1.length:Int),0,v4.2.1,v4.2.2.1,v4.2.2.2.1,v4.2.2.2.2.1,v4.2.2.2.2.2.1,v4.2.2.2.2.2.2.1,v4.2.2.2.2.2.2.2.1,v4.2.2.2.2.2.2.2.2.1,v4.2.2.2.2.2.2.2.2.2.1,()) (jF)) fun v9=>
 some (v9.1,0,((v9.2.1,v9.2.2.1,v9.2.2.2.1,v9.2.2.2.2.1),v9.2.2.2.2.2.1,()),())
def cmp_isNaN_int (a0:Int):Option (Bool×Unit):=
 some (a0 != a0,())
def A6 (a0:Int) (a1:Int):Option (Int×Unit):=
 Option.bind (cmp_isNaN_int a0) fun r1=>
 Option.bind (cmp_isNaN_int a1) fun r2=>
 bif r1.1 then
  bif r2.1 then
   some (0,())
  else
   some ((-1),())
 else
  bif r2.1 then
   some (1,())
  else
   bif decide (a0<a1) then
    some ((-1),())
   else
    bif decide (a0>a1) then
     some (1,())
    else
     some (0,())
def kW (a0:aa) (a1:aa):Option (Int×Unit):=
 Option.bind (strings_Compare a0.2.1 a1.2.1) fun r1=>
 Option.bind (strings_Compare a0.2.2.1 a1.2.2.1) fun r2=>
 Option.bind (strings_Compare a0.2.2.2.1 a1.2.2.2.1) fun r3=>
 Option.bind (strings_Compare a0.2.2.2.2.1 a1.2.2.2.2.1) fun r4=>
 Option.bind (A6 a0.1 a1.1) fun r5=>
 Option.bind (vG [r1.1,r2.1,r3.1,r4.1,r5.1]) fun r6=>
 some (r6.1,())
abbrev dz:Type:=Int×Int×Unit×Int×Int×(List aa)×Unit
abbrev dx:Type:=((((List aa)×Unit) ⊕ ((List aa)×Unit)) ⊕ (Int×Int×Unit×Int×(List aa)×Unit))
def mX (x1:dz) (again:dz→Option dx):Option dx:=
 bif decide (x1.2.2.2.2.1>x1.1) then
  chk (decide (0≤x1.2.2.2.2.1)&&decide (x1.2.2.2.2.1<(x1.2.2.2.2.2.1.length:Int))) <|
  Option.bind (x1.2.2.2.2.2.1[x1.2.2.2.2.1.toNat]?) fun y2=>
  chk (decide (0≤(w64 (x1.2.2.2.2.1 - 1)))&&decide ((w64 (x1.2.2.2.2.1 - 1))<(x1.2.2.2.2.2.1.length:Int))) <|
  Option.bind (x1.2.2.2.2.2.1[(w64 (x1.2.2.2.2.1 - 1)).toNat]?) fun y3=>
  Option.bind (kW y2 y3) fun r4=>
  bif decide (r4.1<0) then
   chk (decide (0≤(w64 (x1.2.2.2.2.1 - 1)))&&decide ((w64 (x1.2.2.2.2.1 - 1))<(x1.2.2.2.2.2.1.length:Int))) <|
   Option.bind (x1.2.2.2.2.2.1[(w64 (x1.2.2.2.2.1 - 1)).toNat]?) fun y5=>
   chk (decide (0≤x1.2.2.2.2.1)&&decide (x1.2.2.2.2.1<(x1.2.2.2.2.2.1.length:Int))) <|
   Option.bind (x1.2.2.2.2.2.1[x1.2.2.2.2.1.toNat]?) fun y6=>
   chk (decide (0≤x1.2.2.2.2.1)&&decide (x1.2.2.2.2.1<(x1.2.2.2.2.2.1.length:Int))) <|
   Option.bind (x1.2.2.2.2.2.1[x1.2.2.2.2.1.toNat]?) fun _=>
   chk (decide (0≤(w64 (x1.2.2.2.2.1 - 1)))&&decide ((w64 (x1.2.2.2.2.1 - 1))<(List.length (List.set x1.2.2.2.2.2.1 x1.2.2.2.2.1.toNat y5):Int))) <|
   Option.bind ((List.set x1.2.2.2.2.2.1 x1.2.2.2.2.1.toNat y5)[(w64 (x1.2.2.2.2.1 - 1)).toNat]?) fun _=>
   again (x1.1,x1.2.1,x1.2.2.1,x1.2.2.2.1,w64 (x1.2.2.2.2.1 - 1),List.set (List.set x1.2.2.2.2.2.1 x1.2.2.2.2.1.toNat y5) (w64 (x1.2.2.2.2.1 - 1)).toNat y6,())
  else
   some (Sum.inr (x1.1,x1.2.1,x1.2.2.1,x1.2.2.2.1,x1.2.2.2.2.2.1,()))
 else
  some (Sum.inr (x1.1,x1.2.1,x1.2.2.1,x1.2.2.2.1,x1.2.2.2.2.2.1,()))
abbrev dy:Type:=Int×Int×Unit×Int×(List aa)×Unit
abbrev dw:Type:=(((List aa)×Unit) ⊕ ((List aa)×Unit))
def mW (x1:dy) (again:dy→Option dw):Option dw:=
 bif decide (x1.2.2.2.1<x1.2.1) then
  aW (β:=(((List aa)×Unit) ⊕ ((List aa)×Unit))) (γ:=(Int×Int×Unit×Int×(List aa)×Unit)) (
   iter (X:=dz) (β:=dx) (x1.1.natAbs+(x1.2.1.natAbs+(x1.2.2.2.1.natAbs+(x1.2.2.2.1.natAbs+(x1.2.2.2.2.1.length+2))))) (x1.1,x1.2.1,x1.2.2.1,x1.2.2.2.1,x1.2.2.2.1,x1.2.2.2.2.1,()) (mX)) fun v2=>
  again (v2.1,v2.2.1,v2.2.2.1,w64 (v2.2.2.2.1+1),v2.2.2.2.2.1,())
 else
  some (Sum.inr (x1.2.2.2.2.1,()))
def dP (a0:List aa) (a1:Int) (a2:Int) (a3:Unit):Option ((List aa)×Unit):=
 aW (β:=((List aa)×Unit)) (γ:=((List aa)×Unit)) (
  iter (X:=dy) (β:=dw) (Int.natAbs a1+(Int.natAbs a2+(Int.natAbs (w64 (a1+1))+(List.length a0+2)))) (a1,a2,a3,w64 (a1+1),a0,()) (mW)) fun v11=>
 some (v11.1,())
abbrev dU:Type:=Int×Int×Int×Int×(List aa)×Unit
abbrev dS:Type:=(((List aa)×Unit) ⊕ ((List aa)×Unit))
def oC (x1:dU) (again:dU→Option dS):Option dS:=
 bif decide (x1.2.2.2.1<x1.2.2.1) then
  chk (decide (0≤(w64 (x1.2.1+x1.2.2.2.1)))&&decide ((w64 (x1.2.1+x1.2.2.2.1))<(x1.2.2.2.2.1.length:Int))) <|
  Option.bind (x1.2.2.2.2.1[(w64 (x1.2.1+x1.2.2.2.1)).toNat]?) fun y2=>
  chk (decide (0≤(w64 (x1.1+x1.2.2.2.1)))&&decide ((w64 (x1.1+x1.2.2.2.1))<(x1.2.2.2.2.1.length:Int))) <|
  Option.bind (x1.2.2.2.2.1[(w64 (x1.1+x1.2.2.2.1)).toNat]?) fun y3=>
  chk (decide (0≤(w64 (x1.1+x1.2.2.2.1)))&&decide ((w64 (x1.1+x1.2.2.2.1))<(x1.2.2.2.2.1.length:Int))) <|
  Option.bind (x1.2.2.2.2.1[(w64 (x1.1+x1.2.2.2.1)).toNat]?) fun _=>
  chk (decide (0≤(w64 (x1.2.1+x1.2.2.2.1)))&&decide ((w64 (x1.2.1+x1.2.2.2.1))<(List.length (List.set x1.2.2.2.2.1 (w64 (x1.1+x1.2.2.2.1)).toNat y2):Int))) <|
  Option.bind ((List.set x1.2.2.2.2.1 (w64 (x1.1+x1.2.2.2.1)).toNat y2)[(w64 (x1.2.1+x1.2.2.2.1)).toNat]?) fun _=>
  again (x1.1,x1.2.1,x1.2.2.1,w64 (x1.2.2.2.1+1),List.set (List.set x1.2.2.2.2.1 (w64 (x1.1+x1.2.2.2.1)).toNat y2) (w64 (x1.2.1+x1.2.2.2.1)).toNat y3,())
 else
  some (Sum.inr (x1.2.2.2.2.1,()))
def cR (a0:List aa) (a1:Int) (a2:Int) (a3:Int) (_a4:Unit):Option ((List aa)×Unit):=
 aW (β:=((List aa)×Unit)) (γ:=((List aa)×Unit)) (
  iter (X:=dU) (β:=dS) (Int.natAbs a1+(Int.natAbs a2+(Int.natAbs a3+(Int.natAbs (0:Int)+(List.length a0+2))))) (a1,a2,a3,0,a0,()) (oC)) fun v6=>
 some (v6.1,())
abbrev eX:Type:=Int×Unit×Int×Int×(List aa)×Unit
abbrev eW:Type:=(((List aa)×Unit) ⊕ (Int×Unit×Int×(List aa)×Unit))
def qW (x1:eX) (again:eX→Option eW):Option eW:=
 bif x1.2.2.1 != x1.2.2.2.1 then
  bif decide (x1.2.2.1>x1.2.2.2.1) then
   Option.bind (cR x1.2.2.2.2.1 (w64 (x1.1 - x1.2.2.1)) x1.1 x1.2.2.2.1 x1.2.1) fun r2=>
   again (x1.1,x1.2.1,w64 (x1.2.2.1 - x1.2.2.2.1),x1.2.2.2.1,r2.1,())
  else
   Option.bind (cR x1.2.2.2.2.1 (w64 (x1.1 - x1.2.2.1)) (w64 ((w64 (x1.1+x1.2.2.2.1)) - x1.2.2.1)) x1.2.2.1 x1.2.1) fun r3=>
   again (x1.1,x1.2.1,x1.2.2.1,w64 (x1.2.2.2.1 - x1.2.2.1),r3.1,())
 else
  some (Sum.inr (x1.1,x1.2.1,x1.2.2.1,x1.2.2.2.2.1,()))
def jy (a0:List aa) (a1:Int) (a2:Int) (a3:Int) (a4:Unit):Option ((List aa)×Unit):=
 aW (β:=((List aa)×Unit)) (γ:=(Int×Unit×Int×(List aa)×Unit)) (
  iter (X:=eX) (β:=eW) (Int.natAbs a2+(Int.natAbs (w64 (a2 - a1))+(Int.natAbs (w64 (a3 - a2))+(List.length a0+2)))) (a2,a4,w64 (a2 - a1),w64 (a3 - a2),a0,()) (qW)) fun v4=>
 Option.bind (cR v4.2.2.2.1 (w64 (v4.1 - v4.2.2.1)) v4.1 v4.2.2.1 v4.2.1) fun r5=>
 some (r5.1,())
abbrev eE:Type:=Int×Unit×Int×Int×(List aa)×Unit
abbrev eA:Type:=(((List aa)×Unit) ⊕ (Int×Int×(List aa)×Unit))
def pO (x1:eE) (again:eE→Option eA):Option eA:=
 bif decide (x1.2.2.1<x1.2.2.2.1) then
  let n2:Int:=w64 (Int.fdiv (bI (w64 (x1.2.2.1+x1.2.2.2.1))) (2 ^ 1))
  chk (decide (0≤n2)&&decide (n2<(x1.2.2.2.2.1.length:Int))) <|
  Option.bind (x1.2.2.2.2.1[n2.toNat]?) fun y3=>
  chk (decide (0≤x1.1)&&decide (x1.1<(x1.2.2.2.2.1.length:Int))) <|
  Option.bind (x1.2.2.2.2.1[x1.1.toNat]?) fun y4=>
  Option.bind (kW y3 y4) fun r5=>
  bif decide (r5.1<0) then
   again (x1.1,x1.2.1,w64 (n2+1),x1.2.2.2.1,x1.2.2.2.2.1,())
  else
   again (x1.1,x1.2.1,x1.2.2.1,n2,x1.2.2.2.2.1,())
 else
  some (Sum.inr (x1.1,x1.2.2.1,x1.2.2.2.2.1,()))
abbrev eG:Type:=Int×Int×(List aa)×Unit
abbrev eD:Type:=(((List aa)×Unit) ⊕ ((List aa)×Unit))
def pP (x1:eG) (again:eG→Option eD):Option eD:=
 bif decide (x1.2.1<(w64 (x1.1 - 1))) then
  chk (decide (0≤(w64 (x1.2.1+1)))&&decide ((w64 (x1.2.1+1))<(x1.2.2.1.length:Int))) <|
  Option.bind (x1.2.2.1[(w64 (x1.2.1+1)).toNat]?) fun y2=>
  chk (decide (0≤x1.2.1)&&decide (x1.2.1<(x1.2.2.1.length:Int))) <|
  Option.bind (x1.2.2.1[x1.2.1.toNat]?) fun y3=>
  chk (decide (0≤x1.2.1)&&decide (x1.2.1<(x1.2.2.1.length:Int))) <|
  Option.bind (x1.2.2.1[x1.2.1.toNat]?) fun _=>
  chk (decide (0≤(w64 (x1.2.1+1)))&&decide ((w64 (x1.2.1+1))<(List.length (List.set x1.2.2.1 x1.2.1.toNat y2):Int))) <|
  Option.bind ((List.set x1.2.2.1 x1.2.1.toNat y2)[(w64 (x1.2.1+1)).toNat]?) fun _=>
  again (x1.1,w64 (x1.2.1+1),List.set (List.set x1.2.2.1 x1.2.1.toNat y2) (w64 (x1.2.1+1)).toNat y3,())
 else
  some (Sum.inr (x1.2.2.1,()))
abbrev dY:Type:=Int×Unit×Int×Int×(List aa)×Unit
abbrev dV:Type:=(((List aa)×Unit) ⊕ (Int×Int×(List aa)×Unit))
def oD (x1:dY) (again:dY→Option dV):Option dV:=
 bif decide (x1.2.2.1<x1.2.2.2.1) then
  let n2:Int:=w64 (Int.fdiv (bI (w64 (x1.2.2.1+x1.2.2.2.1))) (2 ^ 1))
  chk (decide (0≤x1.1)&&decide (x1.1<(x1.2.2.2.2.1.length:Int))) <|
  Option.bind (x1.2.2.2.2.1[x1.1.toNat]?) fun y3=>
  chk (decide (0≤n2)&&decide (n2<(x1.2.2.2.2.1.length:Int))) <|
  Option.bind (x1.2.2.2.2.1[n2.toNat]?) fun y4=>
  Option.bind (kW y3 y4) fun r5=>
  bif !(decide (r5.1<0)) then
   again (x1.1,x1.2.1,w64 (n2+1),x1.2.2.2.1,x1.2.2.2.2.1,())
  else
   again (x1.1,x1.2.1,x1.2.2.1,n2,x1.2.2.2.2.1,())
 else
  some (Sum.inr (x1.1,x1.2.2.1,x1.2.2.2.2.1,()))
abbrev dZ:Type:=Int×Int×(List aa)×Unit
abbrev dW:Type:=(((List aa)×Unit) ⊕ ((List aa)×Unit))
def oE (x1:dZ) (again:dZ→Option dW):Option dW:=
 bif decide (x1.2.1>x1.1) then
  chk (decide (0≤(w64 (x1.2.1 - 1)))&&decide ((w64 (x1.2.1 - 1))<(x1.2.2.1.length:Int))) <|
  Option.bind (x1.2.2.1[(w64 (x1.2.1 - 1)).toNat]?) fun y2=>
  chk (decide (0≤x1.2.1)&&decide (x1.2.1<(x1.2.2.1.length:Int))) <|
  Option.bind (x1.2.2.1[x1.2.1.toNat]?) fun y3=>
  chk (decide (0≤x1.2.1)&&decide (x1.2.1<(x1.2.2.1.length:Int))) <|
  Option.bind (x1.2.2.1[x1.2.1.toNat]?) fun _=>
  chk (decide (0≤(w64 (x1.2.1 - 1)))&&decide ((w64 (x1.2.1 - 1))<(List.length (List.set x1.2.2.1 x1.2.1.toNat y2):Int))) <|
  Option.bind ((List.set x1.2.2.1 x1.2.1.toNat y2)[(w64 (x1.2.1 - 1)).toNat]?) fun _=>
  again (x1.1,w64 (x1.2.1 - 1),List.set (List.set x1.2.2.1 x1.2.1.toNat y2) (w64 (x1.2.1 - 1)).toNat y3,())
 else
  some (Sum.inr (x1.2.2.1,()))
abbrev eo:Type:=Int×Int×Int×Unit×Int×Int×Int×Int×Int×(List aa)×Unit
abbrev dX:Type:=(((List aa)×Unit) ⊕ (Int×Int×Int×Unit×Int×Int×Int×(List aa)×Unit))
def oF (x1:eo) (again:eo→Option dX):Option dX:=
 bif decide (x1.2.2.2.2.2.2.1<x1.2.2.2.2.2.2.2.1) then
  let n2:Int:=w64 (Int.fdiv (bI (w64 (x1.2.2.2.2.2.2.1+x1.2.2.2.2.2.2.2.1))) (2 ^ 1))
  chk (decide (0≤(w64 (x1.2.2.2.2.2.2.2.2.1 - n2)))&&decide ((w64 (x1.2.2.2.2.2.2.2.2.1 - n2))<(x1.2.2.2.2.2.2.2.2.2.1.length:Int))) <|
  Option.bind (x1.2.2.2.2.2.2.2.2.2.1[(w64 (x1.2.2.2.2.2.2.2.2.1 - n2)).toNat]?) fun y3=>
  chk (decide (0≤n2)&&decide (n2<(x1.2.2.2.2.2.2.2.2.2.1.length:Int))) <|
  Option.bind (x1.2.2.2.2.2.2.2.2.2.1[n2.toNat]?) fun y4=>
  Option.bind (kW y3 y4) fun r5=>
  bif !(decide (r5.1<0)) then
   again (x1.1,x1.2.1,x1.2.2.1,x1.2.2.2.1,x1.2.2.2.2.1,x1.2.2.2.2.2.1,w64 (n2+1),x1.2.2.2.2.2.2.2.1,x1.2.2.2.2.2.2.2.2.1,x1.2.2.2.2.2.2.2.2.2.1,())
  else
   again (x1.1,x1.2.1,x1.2.2.1,x1.2.2.2.1,x1.2.2.2.2.1,x1.2.2.2.2.2.1,x1.2.2.2.2.2.2.1,n2,x1.2.2.2.2.2.2.2.2.1,x1.2.2.2.2.2.2.2.2.2.1,())
 else
  some (Sum.inr (x1.1,x1.2.1,x1.2.2.1,x1.2.2.2.1,x1.2.2.2.2.1,x1.2.2.2.2.2.1,x1.2.2.2.2.2.2.1,x1.2.2.2.2.2.2.2.2.2.1,()))
def b5 (self:((List aa)×Int×Int×Int×Unit×Unit)→Option ((List aa)×Unit)) (a0:List aa) (a1:Int) (a2:Int) (a3:Int) (a4:Unit):Option ((List aa)×Unit):=
 bif (w64 (a2 - a1))==1 then
  aW (β:=((List aa)×Unit)) (γ:=(Int×Int×(List aa)×Unit)) (
   iter (X:=eE) (β:=eA) (Int.natAbs a1+(Int.natAbs a2+(Int.natAbs a3+(List.length a0+2)))) (a1,a4,a2,a3,a0,()) (pO)) fun v6=>
  aW (β:=((List aa)×Unit)) (γ:=((List aa)×Unit)) (
   iter (X:=eG) (β:=eD) (v6.2.1.natAbs+(v6.1.natAbs+(v6.2.2.1.length+2))) (v6.2.1,v6.1,v6.2.2.1,()) (pP)) fun v12=>
  some (v12.1,())
 else
  bif (w64 (a3 - a2))==1 then
   aW (β:=((List aa)×Unit)) (γ:=(Int×Int×(List aa)×Unit)) (
    iter (X:=dY) (β:=dV) (Int.natAbs a2+(Int.natAbs a1+(Int.natAbs a2+(List.length a0+2)))) (a2,a4,a1,a2,a0,()) (oD)) fun v18=>
   aW (β:=((List aa)×Unit)) (γ:=((List aa)×Unit)) (
    iter (X:=dZ) (β:=dW) (v18.2.1.natAbs+(v18.1.natAbs+(v18.2.2.1.length+2))) (v18.2.1,v18.1,v18.2.2.1,()) (oE)) fun v24=>
   some (v24.1,())
  else
   let n25:Int:=w64 (Int.fdiv (bI (w64 (a1+a3))) (2 ^ 1))
   aW (β:=((List aa)×Unit)) (γ:=(Int×Int×Int×Unit×Int×Int×Int×Int×(List aa)×Unit)) (
    bif decide (a2>n25) then
     some (Sum.inr (a1,a2,a3,a4,n25,w64 (n25+a2),w64 ((w64 (n25+a2)) - a3),n25,a0,()))
    else
     some (Sum.inr (a1,a2,a3,a4,n25,w64 (n25+a2),a1,a2,a0,()))) fun v26=>
   aW (β:=((List aa)×Unit)) (γ:=(Int×Int×Int×Unit×Int×Int×Int×(List aa)×Unit)) (
    iter (X:=eo) (β:=dX) (v26.1.natAbs+(v26.2.1.natAbs+(v26.2.2.1.natAbs+(v26.2.2.2.2.1.natAbs+(v26.2.2.2.2.2.1.natAbs+(v26.2.2.2.2.2.2.1.natAbs+(v26.2.2.2.2.2.2.2.1.natAbs+(Int.natAbs (w64 (v26.2.2.2.2.2.1 - 1))+(v26.2.2.2.2.2.2.2.2.1.length+2))))))))) (v26.1,v26.2.1,v26.2.2.1,v26.2.2.2.1,v26.2.2.2.2.1,v26.2.2.2.2.2.1,v26.2.2.2.2.2.2.1,v26.2.2.2.2.2.2.2.1,w64 (v26.2.2.2.2.2.1 - 1),v26.2.2.2.2.2.2.2.2.1,()) (oF)) fun v32=>
   Option.bind (
    bif decide (v32.2.2.2.2.2.2.1<v32.2.1) then
     some (decide (v32.2.1<(w64 (v32.2.2.2.2.2.1 - v32.2.2.2.2.2.2.1))),())
    else
     some (false,())) fun v33=>
   aW (β:=((List aa)×Unit)) (γ:=(Int×Int×Unit×Int×Int×Int×(List aa)×Unit)) (
    bif v33.1 then
     Option.bind (jy v32.2.2.2.2.2.2.2.1 v32.2.2.2.2.2.2.1 v32.2.1 (w64 (v32.2.2.2.2.2.1 - v32.2.2.2.2.2.2.1)) v32.2.2.2.1) fun r34=>
     some (Sum.inr (v32.1,v32.2.2.1,v32.2.2.2.1,v32.2.2.2.2.1,v32.2.2.2.2.2.2.1,w64 (v32.2.2.2.2.2.1 - v32.2.2.2.2.2.2.1),r34.1,()))
    else
     some (Sum.inr (v32.1,v32.2.2.1,v32.2.2.2.1,v32.2.2.2.2.1,v32.2.2.2.2.2.2.1,w64 (v32.2.2.2.2.2.1 - v32.2.2.2.2.2.2.1),v32.2.2.2.2.2.2.2.1,()))) fun v35=>
   Option.bind (
    bif decide (v35.1<v35.2.2.2.2.1) then
     some (decide (v35.2.2.2.2.1<v35.2.2.2.1),())
    else
     some (false,())) fun v36=>
   aW (β:=((List aa)×Unit)) (γ:=(Int×Unit×Int×Int×(List aa)×Unit)) (
    bif v36.1 then
     Option.bind (self (v35.2.2.2.2.2.2.1,v35.1,v35.2.2.2.2.1,v35.2.2.2.1,v35.2.2.1,())) fun r37=>
     some (Sum.inr (v35.2.1,v35.2.2.1,v35.2.2.2.1,v35.2.2.2.2.2.1,r37.1,()))
    else
     some (Sum.inr (v35.2.1,v35.2.2.1,v35.2.2.2.1,v35.2.2.2.2.2.1,v35.2.2.2.2.2.2.1,()))) fun v38=>
   Option.bind (
    bif decide (v38.2.2.1<v38.2.2.2.1) then
     some (decide (v38.2.2.2.1<v38.1),())
    else
     some (false,())) fun v39=>
   bif v39.1 then
    Option.bind (self (v38.2.2.2.2.1,v38.2.2.1,v38.2.2.2.1,v38.1,v38.2.1,())) fun r40=>
    some (r40.1,())
   else
    some (v38.2.2.2.2.1,())
def gK (a0:List aa) (a1:Int) (a2:Int) (a3:Int) (_a4:Unit):Nat:=List.length a0+(Int.natAbs a1+(Int.natAbs a2+(Int.natAbs a3+2)))
def fB (a0:List aa) (a1:Int) (a2:Int) (a3:Int) (a4:Unit):Option ((List aa)×Unit):=
 wg (fun self x=>b5 self x.1 x.2.1 x.2.2.1 x.2.2.2.1 x.2.2.2.2.1) (gK a0 a1 a2 a3 a4) (a0,a1,a2,a3,a4,())
abbrev ff:Type:=Int×Unit×Int×Int×Int×(List aa)×Unit
abbrev eY:Type:=(((List aa)×Unit) ⊕ (Int×Unit×Int×Int×(List aa)×Unit))
def qX (x1:ff) (again:ff→Option eY):Option eY:=
 bif decide (x1.2.2.2.2.1≤x1.1) then
  Option.bind (dP x1.2.2.2.2.2.1 x1.2.2.2.1 x1.2.2.2.2.1 x1.2.1) fun r2=>
  again (x1.1,x1.2.1,x1.2.2.1,x1.2.2.2.2.1,w64 (x1.2.2.2.2.1+x1.2.2.1),r2.1,())
 else
  some (Sum.inr (x1.1,x1.2.1,x1.2.2.1,x1.2.2.2.1,x1.2.2.2.2.2.1,()))
abbrev fk:Type:=Int×Unit×Int×Int×Int×(List aa)×Unit
abbrev fe:Type:=((((List aa)×Unit) ⊕ ((List aa)×Unit)) ⊕ (Int×Unit×Int×Int×(List aa)×Unit))
def qZ (x1:fk) (again:fk→Option fe):Option fe:=
 bif decide (x1.2.2.2.2.1≤x1.1) then
  Option.bind (fB x1.2.2.2.2.2.1 x1.2.2.2.1 (w64 (x1.2.2.2.1+x1.2.2.1)) x1.2.2.2.2.1 x1.2.1) fun r2=>
  again (x1.1,x1.2.1,x1.2.2.1,x1.2.2.2.2.1,w64 (x1.2.2.2.2.1+(w64 (2*x1.2.2.1))),r2.1,())
 else
  some (Sum.inr (x1.1,x1.2.1,x1.2.2.1,x1.2.2.2.1,x1.2.2.2.2.2.1,()))
abbrev fh:Type:=Int×Unit×Int×(List aa)×Unit
abbrev eZ:Type:=(((List aa)×Unit) ⊕ ((List aa)×Unit))
def qY (x1:fh) (again:fh→Option eZ):Option eZ:=
 bif decide (x1.2.2.1<x1.1) then
  aW (β:=(((List aa)×Unit) ⊕ ((List aa)×Unit))) (γ:=(Int×Unit×Int×Int×(List aa)×Unit)) (
   iter (X:=fk) (β:=fe) (x1.1.natAbs+(x1.2.2.1.natAbs+(Int.natAbs (0:Int)+(Int.natAbs (w64 (2*x1.2.2.1))+(x1.2.2.2.1.length+2))))) (x1.1,x1.2.1,x1.2.2.1,0,w64 (2*x1.2.2.1),x1.2.2.2.1,()) (qZ)) fun v2=>
  bif decide ((w64 (v2.2.2.2.1+v2.2.2.1))<v2.1) then
   Option.bind (fB v2.2.2.2.2.1 v2.2.2.2.1 (w64 (v2.2.2.2.1+v2.2.2.1)) v2.1 v2.2.1) fun r3=>
   again (v2.1,v2.2.1,w64 (v2.2.2.1*2),r3.1,())
  else
   again (v2.1,v2.2.1,w64 (v2.2.2.1*2),v2.2.2.2.2.1,())
 else
  some (Sum.inr (x1.2.2.2.1,()))
def jA (a0:List aa) (a1:Int) (a2:Unit):Option ((List aa)×Unit):=
 aW (β:=((List aa)×Unit)) (γ:=(Int×Unit×Int×Int×(List aa)×Unit)) (
  iter (X:=ff) (β:=eY) (Int.natAbs a1+(Int.natAbs (20:Int)+(Int.natAbs (0:Int)+(Int.natAbs (20:Int)+(List.length a0+2))))) (a1,a2,20,0,20,a0,()) (qX)) fun v3=>
 Option.bind (dP v3.2.2.2.2.1 v3.2.2.2.1 v3.1 v3.2.1) fun r4=>
 aW (β:=((List aa)×Unit)) (γ:=((List aa)×Unit)) (
  iter (X:=fh) (β:=eZ) (v3.1.natAbs+(v3.2.2.1.natAbs+(r4.1.length+2))) (v3.1,v3.2.1,v3.2.2.1,r4.1,()) (qY)) fun v10=>
 some (v10.1,())
def fI (a0:List aa) (a1:Unit):Option ((List aa)×Unit):=
 Option.bind (jA a0 ((List.length a0:Int)) a1) fun r1=>
 some (r1.1,())
abbrev jk:Type:=(List au)×(List aa)×(List ah)×Int×Int×(List UInt8)×(List UInt8)×Int×(List ah)×(List UInt8)×(List UInt8)×Int×(List ah)×(List au)×Unit
abbrev mQ:Type:=(((List aa)×Int×Unit) ⊕ ((List au)×(List aa)×(List UInt8)×(List UInt8)×Int×(List ah)×(List au)×Unit))
def mP (x1:jk) (again:jk→Option mQ):Option mQ:=
 bif decide (x1.2.2.2.2.1<x1.2.2.2.1) then
  Option.bind (idx x1.2.2.1 x1.2.2.2.2.1) fun y2=>
  Option.bind (gq (x1.2.2.2.2.2.1,x1.2.2.2.2.2.2.1,x1.2.2.2.2.2.2.2.1,x1.2.2.2.2.2.2.2.2.1) x1.2.2.2.2.1) fun r3=>
  Option.bind (dK ((x1.2.2.2.2.2.2.2.2.2.1,x1.2.2.2.2.2.2.2.2.2.2.1,x1.2.2.2.2.2.2.2.2.2.2.2.1,x1.2.2.2.2.2.2.2.2.2.2.2.2.1),x1.2.2.2.2.2.2.2.2.2.2.2.2.2.1) x1.2.2.2.2.1) fun r4=>
  bif !r4.1 then
   Option.bind (rD r3.1 ((x1.2.2.2.2.2.2.2.2.2.1,x1.2.2.2.2.2.2.2.2.2.2.1,x1.2.2.2.2.2.2.2.2.2.2.2.1,x1.2.2.2.2.2.2.2.2.2.2.2.2.1),x1.2.2.2.2.2.2.2.2.2.2.2.2.2.1)) fun r5=>
   bif !r5.1 then
    chk (decide (((x1.2.1.length)+1)*88≤140737488355328)&&decide ((x1.2.1.length)+1≤maxLen)) <|
    again (x1.1,x1.2.1++[(1,y2.1,[],[],[],0,0)],x1.2.2.1,x1.2.2.2.1,w64 (x1.2.2.2.2.1+1),x1.2.2.2.2.2.1,x1.2.2.2.2.2.2.1,x1.2.2.2.2.2.2.2.1,x1.2.2.2.2.2.2.2.2.1,x1.2.2.2.2.2.2.2.2.2.1,x1.2.2.2.2.2.2.2.2.2.2.1,x1.2.2.2.2.2.2.2.2.2.2.2.1,x1.2.2.2.2.2.2.2.2.2.2.2.2.1,x1.2.2.2.2.2.2.2.2.2.2.2.2.2.1,())
   else
    again (x1.1,x1.2.1,x1.2.2.1,x1.2.2.2.1,w64 (x1.2.2.2.2.1+1),x1.2.2.2.2.2.1,x1.2.2.2.2.2.2.1,x1.2.2.2.2.2.2.2.1,x1.2.2.2.2.2.2.2.2.1,x1.2.2.2.2.2.2.2.2.2.1,x1.2.2.2.2.2.2.2.2.2.2.1,x1.2.2.2.2.2.2.2.2.2.2.2.1,x1.2.2.2.2.2.2.2.2.2.2.2.2.1,x1.2.2.2.2.2.2.2.2.2.2.2.2.2.1,())
  else
   again (x1.1,x1.2.1,x1.2.2.1,x1.2.2.2.1,w64 (x1.2.2.2.2.1+1),x1.2.2.2.2.2.1,x1.2.2.2.2.2.2.1,x1.2.2.2.2.2.2.2.1,x1.2.2.2.2.2.2.2.2.1,x1.2.2.2.2.2.2.2.2.2.1,x1.2.2.2.2.2.2.2.2.2.2.1,x1.2.2.2.2.2.2.2.2.2.2.2.1,x1.2.2.2.2.2.2.2.2.2.2.2.2.1,x1.2.2.2.2.2.2.2.2.2.2.2.2.2.1,())
 else
  some (Sum.inr (x1.1,x1.2.1,x1.2.2.2.2.2.2.2.2.2.1,x1.2.2.2.2.2.2.2.2.2.2.1,x1.2.2.2.2.2.2.2.2.2.2.2.1,x1.2.2.2.2.2.2.2.2.2.2.2.2.1,x1.2.2.2.2.2.2.2.2.2.2.2.2.2.1,()))
abbrev iG:Type:=(List aa)×(List au)×Int×Int×(List UInt8)×(List UInt8)×Int×(List ah)×(List au)×Unit
abbrev lJ:Type:=(((List aa)×Int×Unit) ⊕ ((List aa)×Unit))
def lI (x1:iG) (again:iG→Option lJ):Option lJ:=
 bif decide (x1.2.2.2.1<x1.2.2.1) then
  Option.bind (idx x1.2.1 x1.2.2.2.1) fun y2=>
  Option.bind (gj ((x1.2.2.2.2.1,x1.2.2.2.2.2.1,x1.2.2.2.2.2.2.1,x1.2.2.2.2.2.2.2.1),x1.2.2.2.2.2.2.2.2.1,()) y2) fun r3=>
  bif r3.2.1 != 0 then
   some (Sum.inl ([],r3.2.1,()))
  else
   chk (decide (((x1.1.length)+(r3.1.length))*88≤140737488355328)&&decide ((x1.1.length)+(r3.1.length)≤maxLen)) <|
   again (x1.1++r3.1,x1.2.1,x1.2.2.1,w64 (x1.2.2.2.1+1),r3.2.2.1.1.1,r3.2.2.1.1.2.1,r3.2.2.1.1.2.2.1,r3.2.2.1.1.2.2.2,r3.2.2.1.2.1,())
 else
  some (Sum.inr (x1.1,()))
def kN (a0:aq) (a1:List au):Option ((List aa)×Int×Unit):=
 JS (fH a0 a1) (fun r1=>
  bif r1.2.1 != 0 then
   some ([],r1.2.1,())
  else
   none) (
  Option.bind (kY a0 a1) fun r10=>
  bif r10.2.1 != 0 then
   some ([],r10.2.1,())
  else
   aW (β:=((List aa)×Int×Unit)) (γ:=((List au)×(List aa)×(List UInt8)×(List UInt8)×Int×(List ah)×(List au)×Unit)) (
    iter (X:=jk) (β:=mQ) (List.length a1+(List.length ([]:List aa)+(a0.2.2.2.length+(Int.natAbs ((a0.2.2.2.length:Int))+(Int.natAbs (0:Int)+(a0.1.length+(a0.2.1.length+(a0.2.2.1.natAbs+(a0.2.2.2.length+(r10.1.1.1.length+(r10.1.1.2.1.length+(r10.1.1.2.2.1.natAbs+(r10.1.1.2.2.2.length+(r10.1.2.1.length+2)))))))))))))) (a1,[],a0.2.2.2,(a0.2.2.2.length:Int),0,a0.1,a0.2.1,a0.2.2.1,a0.2.2.2,r10.1.1.1,r10.1.1.2.1,r10.1.1.2.2.1,r10.1.1.2.2.2,r10.1.2.1,()) (mP)) fun v16=>
   aW (β:=((List aa)×Int×Unit)) (γ:=((List aa)×Unit)) (
    iter (X:=iG) (β:=lJ) (v16.2.1.length+(v16.1.length+(Int.natAbs ((v16.1.length:Int))+(Int.natAbs (0:Int)+(v16.2.2.1.length+(v16.2.2.2.1.length+(v16.2.2.2.2.1.natAbs+(v16.2.2.2.2.2.1.length+(v16.2.2.2.2.2.2.1.length+2))))))))) (v16.2.1,v16.1,(v16.1.length:Int),0,v16.2.2.1,v16.2.2.2.1,v16.2.2.2.2.1,v16.2.2.2.2.2.1,v16.2.2.2.2.2.2.1,()) (lI)) fun v20=>
   Option.bind (fI v20.1 ()) fun r21=>
   some (r21.1,0,()))
def FU (a0:az):Option (az×Unit):=
 some ((w64 (0 - a0.1),a0.2),())
abbrev mT:Type:=(List au)×Int×Int×(List aj)×Int×Int×(List UInt8)×(List UInt8)×Int×(List ah)×(List UInt8)×Bool×(List aj)×(List aj)×(List UInt8)×(List UInt8)×Int×(List ah)×(List au)×(List (aD×ai))×Unit
abbrev sd:Type:=((((List bp)×Int×Unit) ⊕ ((List UInt8)×(List UInt8)×Int×(List ah)×(List UInt8)×(List UInt8)×Int×(List ah)×(List au)×(List (aD×ai))×Unit)) ⊕ ((List au)×Int×Int×(List UInt8)×(List UInt8)×Int×(List ah)×(List UInt8)×Bool×(List aj)×(List aj)×(List UInt8)×(List UInt8)×Int×(List ah)×(List au)×(List (aD×ai))×Unit))
def rZ (x1:mT) (again:mT→Option sd):Option sd:=
 bif decide (x1.2.2.2.2.2.1<x1.2.2.2.2.1) then
  Option.bind (idx x1.2.2.2.1 x1.2.2.2.2.2.1) fun y2=>
  Option.bind (dM x1.2.2.2.2.2.2.2.2.2.2.2.2.2.2.2.2.2.2.2.1 (y2.1,y2.2.1) y2.2.2.2) fun r3=>
  again (x1.1,x1.2.1,x1.2.2.1,x1.2.2.2.1,x1.2.2.2.2.1,w64 (x1.2.2.2.2.2.1+1),x1.2.2.2.2.2.2.1,x1.2.2.2.2.2.2.2.1,x1.2.2.2.2.2.2.2.2.1,x1.2.2.2.2.2.2.2.2.2.1,x1.2.2.2.2.2.2.2.2.2.2.1,x1.2.2.2.2.2.2.2.2.2.2.2.1,x1.2.2.2.2.2.2.2.2.2.2.2.2.1,x1.2.2.2.2.2.2.2.2.2.2.2.2.2.1,x1.2.2.2.2.2.2.2.2.2.2.2.2.2.2.1,x1.2.2.2.2.2.2.2.2.2.2.2.2.2.2.2.1,x1.2.2.2.2.2.2.2.2.2.2.2.2.2.2.2.2.1,x1.2.2.2.2.2.2.2.2.2.2.2.2.2.2.2.2.2.1,x1.2.2.2.2.2.2.2.2.2.2.2.2.2.2.2.2.2.2.1,r3.1,())
 else
  some (Sum.inr (x1.1,x1.2.1,x1.2.2.1,x1.2.2.2.2.2.2.1,x1.2.2.2.2.2.2.2.1,x1.2.2.2.2.2.2.2.2.1,x1.2.2.2.2.2.2.2.2.2.1,x1.2.2.2.2.2.2.2.2.2.2.1,x1.2.2.2.2.2.2.2.2.2.2.2.1,x1.2.2.2.2.2.2.2.2.2.2.2.2.1,x1.2.2.2.2.2.2.2.2.2.2.2.2.2.1,x1.2.2.2.2.2.2.2.2.2.2.2.2.2.2.1,x1.2.2.2.2.2.2.2.2.2.2.2.2.2.2.2.1,x1.2.2.2.2.2.2.2.2.2.2.2.2.2.2.2.2.1,x1.2.2.2.2.2.2.2.2.2.2.2.2.2.2.2.2.2.1,x1.2.2.2.2.2.2.2.2.2.2.2.2.2.2.2.2.2.2.1,x1.2.2.2.2.2.2.2.2.2.2.2.2.2.2.2.2.2.2.2.1,()))
abbrev lQ:Type:=(List au)×Int×Int×(List aj)×Int×Int×(List UInt8)×(List UInt8)×Int×(List ah)×(List UInt8)×(List UInt8)×Int×(List ah)×(List au)×(List (aD×ai))×Unit
abbrev qR:Type:=((((List bp)×Int×Unit) ⊕ ((List UInt8)×(List UInt8)×Int×(List ah)×(List UInt8)×(List UInt8)×Int×(List ah)×(List au)×(List (aD×ai))×Unit)) ⊕ ((List au)×Int×Int×(List UInt8)×(List UInt8)×Int×(List ah)×(List UInt8)×(List UInt8)×Int×(List ah)×(List au)×(List (aD×ai))×Unit))
def qQ (x1:lQ) (again:lQ→Option qR):Option qR:=
 bif decide (x1.2.2.2.2.2.1<x1.2.2.2.2.1) then
  Option.bind (idx x1.2.2.2.1 x1.2.2.2.2.2.1) fun y2=>
  Option.bind (FU y2.2.2.2) fun r3=>
  Option.bind (dM x1.2.2.2.2.2.2.2.2.2.2.2.2.2.2.2.1 (y2.1,y2.2.1) r3.1) fun r4=>
  again (x1.1,x1.2.1,x1.2.2.1,x1.2.2.2.1,x1.2.2.2.2.1,w64 (x1.2.2.2.2.2.1+1),x1.2.2.2.2.2.2.1,x1.2.2.2.2.2.2.2.1,x1.2.2.2.2.2.2.2.2.1,x1.2.2.2.2.2.2.2.2.2.1,x1.2.2.2.2.2.2.2.2.2.2.1,x1.2.2.2.2.2.2.2.2.2.2.2.1,x1.2.2.2.2.2.2.2.2.2.2.2.2.1,x1.2.2.2.2.2.2.2.2.2.2.2.2.2.1,x1.2.2.2.2.2.2.2.2.2.2.2.2.2.2.1,r4.1,())
 else
  some (Sum.inr (x1.1,x1.2.1,x1.2.2.1,x1.2.2.2.2.2.2.1,x1.2.2.2.2.2.2.2.1,x1.2.2.2.2.2.2.2.2.1,x1.2.2.2.2.2.2.2.2.2.1,x1.2.2.2.2.2.2.2.2.2.2.1,x1.2.2.2.2.2.2.2.2.2.2.2.1,x1.2.2.2.2.2.2.2.2.2.2.2.2.1,x1.2.2.2.2.2.2.2.2.2.2.2.2.2.1,x1.2.2.2.2.2.2.2.2.2.2.2.2.2.2.1,x1.2.2.2.2.2.2.2.2.2.2.2.2.2.2.2.1,()))
abbrev jl:Type:=(List au)×Int×Int×(List UInt8)×(List UInt8)×Int×(List ah)×(List UInt8)×(List UInt8)×Int×(List ah)×(List au)×(List (aD×ai))×Unit
abbrev mS:Type:=(((List bp)×Int×Unit) ⊕ ((List UInt8)×(List UInt8)×Int×(List ah)×(List UInt8)×(List UInt8)×Int×(List ah)×(List au)×(List (aD×ai))×Unit))
def mR (x1:jl) (again:jl→Option mS):Option mS:=
 bif decide (x1.2.2.1<x1.2.1) then
  Option.bind (idx x1.1 x1.2.2.1) fun y2=>
  aW (β:=(((List bp)×Int×Unit) ⊕ ((List UInt8)×(List UInt8)×Int×(List ah)×(List UInt8)×(List UInt8)×Int×(List ah)×(List au)×(List (aD×ai))×Unit))) (γ:=((List au)×Int×Int×(List UInt8)×(List UInt8)×Int×(List ah)×(List UInt8)×Bool×(List aj)×(List aj)×(List UInt8)×(List UInt8)×Int×(List ah)×(List au)×(List (aD×ai))×Unit)) (
   iter (X:=mT) (β:=sd) (x1.1.length+(x1.2.1.natAbs+(x1.2.2.1.natAbs+(y2.2.2.1.length+(Int.natAbs ((y2.2.2.1.length:Int))+(Int.natAbs (0:Int)+(x1.2.2.2.1.length+(x1.2.2.2.2.1.length+(x1.2.2.2.2.2.1.natAbs+(x1.2.2.2.2.2.2.1.length+(y2.1.length+(y2.2.2.1.length+(y2.2.2.2.length+(x1.2.2.2.2.2.2.2.1.length+(x1.2.2.2.2.2.2.2.2.1.length+(x1.2.2.2.2.2.2.2.2.2.1.natAbs+(x1.2.2.2.2.2.2.2.2.2.2.1.length+(x1.2.2.2.2.2.2.2.2.2.2.2.1.length+(x1.2.2.2.2.2.2.2.2.2.2.2.2.1.length+2))))))))))))))))))) (x1.1,x1.2.1,x1.2.2.1,y2.2.2.1,(y2.2.2.1.length:Int),0,x1.2.2.2.1,x1.2.2.2.2.1,x1.2.2.2.2.2.1,x1.2.2.2.2.2.2.1,y2.1,y2.2.1,y2.2.2.1,y2.2.2.2,x1.2.2.2.2.2.2.2.1,x1.2.2.2.2.2.2.2.2.1,x1.2.2.2.2.2.2.2.2.2.1,x1.2.2.2.2.2.2.2.2.2.2.1,x1.2.2.2.2.2.2.2.2.2.2.2.1,x1.2.2.2.2.2.2.2.2.2.2.2.2.1,()) (rZ)) fun v3=>
  aW (β:=(((List bp)×Int×Unit) ⊕ ((List UInt8)×(List UInt8)×Int×(List ah)×(List UInt8)×(List UInt8)×Int×(List ah)×(List au)×(List (aD×ai))×Unit))) (γ:=((List au)×Int×Int×(List UInt8)×(List UInt8)×Int×(List ah)×(List UInt8)×(List UInt8)×Int×(List ah)×(List au)×(List (aD×ai))×Unit)) (
   iter (X:=lQ) (β:=qR) (v3.1.length+(v3.2.1.natAbs+(v3.2.2.1.natAbs+(v3.2.2.2.2.2.2.2.2.2.2.1.length+(Int.natAbs ((v3.2.2.2.2.2.2.2.2.2.2.1.length:Int))+(Int.natAbs (0:Int)+(v3.2.2.2.1.length+(v3.2.2.2.2.1.length+(v3.2.2.2.2.2.1.natAbs+(v3.2.2.2.2.2.2.1.length+(v3.2.2.2.2.2.2.2.2.2.2.2.1.length+(v3.2.2.2.2.2.2.2.2.2.2.2.2.1.length+(v3.2.2.2.2.2.2.2.2.2.2.2.2.2.1.natAbs+(v3.2.2.2.2.2.2.2.2.2.2.2.2.2.2.1.length+(v3.2.2.2.2.2.2.2.2.2.2.2.2.2.2.2.1.length+(v3.2.2.2.2.2.2.2.2.2.2.2.2.2.2.2.2.1.length+2)))))))))))))))) (v3.1,v3.2.1,v3.2.2.1,v3.2.2.2.2.2.2.2.2.2.2.1,(v3.2.2.2.2.2.2.2.2.2.2.1.length:Int),0,v3.2.2.2.1,v3.2.2.2.2.1,v3.2.2.2.2.2.1,v3.2.2.2.2.2.2.1,v3.2.2.2.2.2.2.2.2.2.2.2.1,v3.2.2.2.2.2.2.2.2.2.2.2.2.1,v3.2.2.2.2.2.2.2.2.2.2.2.2.2.1,v3.2.2.2.2.2.2.2.2.2.2.2.2.2.2.1,v3.2.2.2.2.2.2.2.2.2.2.2.2.2.2.2.1,v3.2.2.2.2.2.2.2.2.2.2.2.2.2.2.2.2.1,()) (qQ)) fun v4=>
  again (v4.1,v4.2.1,w64 (v4.2.2.1+1),v4.2.2.2.1,v4.2.2.2.2.1,v4.2.2.2.2.2.1,v4.2.2.2.2.2.2.1,v4.2.2.2.2.2.2.2.1,v4.2.2.2.2.2.2.2.2.1,v4.2.2.2.2.2.2.2.2.2.1,v4.2.2.2.2.2.2.2.2.2.2.1,v4.2.2.2.2.2.2.2.2.2.2.2.1,v4.2.2.2.2.2.2.2.2.2.2.2.2.1,())
 else
  some (Sum.inr (x1.2.2.2.1,x1.2.2.2.2.1,x1.2.2.2.2.2.1,x1.2.2.2.2.2.2.1,x1.2.2.2.2.2.2.2.1,x1.2.2.2.2.2.2.2.2.1,x1.2.2.2.2.2.2.2.2.2.1,x1.2.2.2.2.2.2.2.2.2.2.1,x1.2.2.2.2.2.2.2.2.2.2.2.1,x1.2.2.2.2.2.2.2.2.2.2.2.2.1,()))
abbrev iI:Type:=(List ah)×Int×Int×(List aj)×Int×Int×(List UInt8)×(List UInt8)×Int×(List ah)×(List au)×(List (aD×ai))×Unit
abbrev lP:Type:=((((List bp)×Int×Unit) ⊕ ((List (aD×ai))×Unit)) ⊕ ((List ah)×Int×Int×(List UInt8)×(List UInt8)×Int×(List ah)×(List au)×(List (aD×ai))×Unit))
def lM (x1:iI) (again:iI→Option lP):Option lP:=
 bif decide (x1.2.2.2.2.2.1<x1.2.2.2.2.1) then
  Option.bind (idx x1.2.2.2.1 x1.2.2.2.2.2.1) fun y2=>
  Option.bind (dM x1.2.2.2.2.2.2.2.2.2.2.2.1 (y2.1,y2.2.1) y2.2.2.2) fun r3=>
  again (x1.1,x1.2.1,x1.2.2.1,x1.2.2.2.1,x1.2.2.2.2.1,w64 (x1.2.2.2.2.2.1+1),x1.2.2.2.2.2.2.1,x1.2.2.2.2.2.2.2.1,x1.2.2.2.2.2.2.2.2.1,x1.2.2.2.2.2.2.2.2.2.1,x1.2.2.2.2.2.2.2.2.2.2.1,r3.1,())
 else
  some (Sum.inr (x1.1,x1.2.1,x1.2.2.1,x1.2.2.2.2.2.2.1,x1.2.2.2.2.2.2.2.1,x1.2.2.2.2.2.2.2.2.1,x1.2.2.2.2.2.2.2.2.2.1,x1.2.2.2.2.2.2.2.2.2.2.1,x1.2.2.2.2.2.2.2.2.2.2.2.1,()))
abbrev iH:Type:=(List ah)×Int×Int×(List UInt8)×(List UInt8)×Int×(List ah)×(List au)×(List (aD×ai))×Unit
abbrev lN:Type:=(((List bp)×Int×Unit) ⊕ ((List (aD×ai))×Unit))
def lK (x1:iH) (again:iH→Option lN):Option lN:=
 bif decide (x1.2.2.1<x1.2.1) then
  Option.bind (idx x1.1 x1.2.2.1) fun y2=>
  Option.bind (fD ((x1.2.2.2.1,x1.2.2.2.2.1,x1.2.2.2.2.2.1,x1.2.2.2.2.2.2.1),x1.2.2.2.2.2.2.2.1,()) y2.1) fun r3=>
  Option.bind (
   Option.bind (dK (r3.2.2.1.1,r3.2.2.1.2.1) x1.2.2.1) fun r4=>
   bif !r4.1 then
    some (true,())
   else
    bif r3.2.1 then
     some (!r3.1.2.1,())
    else
     some (false,())) fun v5=>
  bif v5.1 then
   again (x1.1,x1.2.1,w64 (x1.2.2.1+1),r3.2.2.1.1.1,r3.2.2.1.1.2.1,r3.2.2.1.1.2.2.1,r3.2.2.1.1.2.2.2,r3.2.2.1.2.1,x1.2.2.2.2.2.2.2.2.1,())
  else
   aW (β:=(((List bp)×Int×Unit) ⊕ ((List (aD×ai))×Unit))) (γ:=((List ah)×Int×Int×(List UInt8)×(List UInt8)×Int×(List ah)×(List au)×(List (aD×ai))×Unit)) (
    iter (X:=iI) (β:=lP) (x1.1.length+(x1.2.1.natAbs+(x1.2.2.1.natAbs+(y2.2.2.2.length+(Int.natAbs ((y2.2.2.2.length:Int))+(Int.natAbs (0:Int)+(r3.2.2.1.1.1.length+(r3.2.2.1.1.2.1.length+(r3.2.2.1.1.2.2.1.natAbs+(r3.2.2.1.1.2.2.2.length+(r3.2.2.1.2.1.length+(x1.2.2.2.2.2.2.2.2.1.length+2)))))))))))) (x1.1,x1.2.1,x1.2.2.1,y2.2.2.2,(y2.2.2.2.length:Int),0,r3.2.2.1.1.1,r3.2.2.1.1.2.1,r3.2.2.1.1.2.2.1,r3.2.2.1.1.2.2.2,r3.2.2.1.2.1,x1.2.2.2.2.2.2.2.2.1,()) (lM)) fun v6=>
   again (v6.1,v6.2.1,w64 (v6.2.2.1+1),v6.2.2.2.1,v6.2.2.2.2.1,v6.2.2.2.2.2.1,v6.2.2.2.2.2.2.1,v6.2.2.2.2.2.2.2.1,v6.2.2.2.2.2.2.2.2.1,())
 else
  some (Sum.inr (x1.2.2.2.2.2.2.2.2.1,()))
def rB (a0:aq) (a1:List au):Option ((List bp)×Int×Unit):=
 JS (fH a0 a1) (fun r1=>
  bif r1.2.1 != 0 then
   some ([],r1.2.1,())
  else
   none) (
  Option.bind (kY a0 a1) fun r2=>
  bif r2.2.1 != 0 then
   some ([],r2.2.1,())
  else
   aW (β:=((List bp)×Int×Unit)) (γ:=((List UInt8)×(List UInt8)×Int×(List ah)×(List UInt8)×(List UInt8)×Int×(List ah)×(List au)×(List (aD×ai))×Unit)) (
    iter (X:=jl) (β:=mS) (List.length a1+(Int.natAbs ((List.length a1:Int))+(Int.natAbs (0:Int)+(a0.1.length+(a0.2.1.length+(a0.2.2.1.natAbs+(a0.2.2.2.length+(r2.1.1.1.length+(r2.1.1.2.1.length+(r2.1.1.2.2.1.natAbs+(r2.1.1.2.2.2.length+(r2.1.2.1.length+(List.length ([]:List (aD×ai))+2))))))))))))) (a1,(List.length a1:Int),0,a0.1,a0.2.1,a0.2.2.1,a0.2.2.2,r2.1.1.1,r2.1.1.2.1,r2.1.1.2.2.1,r2.1.1.2.2.2,r2.1.2.1,[],()) (mR)) fun v14=>
   aW (β:=((List bp)×Int×Unit)) (γ:=((List (aD×ai))×Unit)) (
    iter (X:=iH) (β:=lN) (v14.2.2.2.1.length+(Int.natAbs ((v14.2.2.2.1.length:Int))+(Int.natAbs (0:Int)+(v14.2.2.2.2.1.length+(v14.2.2.2.2.2.1.length+(v14.2.2.2.2.2.2.1.natAbs+(v14.2.2.2.2.2.2.2.1.length+(v14.2.2.2.2.2.2.2.2.1.length+(v14.2.2.2.2.2.2.2.2.2.1.length+2))))))))) (v14.2.2.2.1,(v14.2.2.2.1.length:Int),0,v14.2.2.2.2.1,v14.2.2.2.2.2.1,v14.2.2.2.2.2.2.1,v14.2.2.2.2.2.2.2.1,v14.2.2.2.2.2.2.2.2.1,v14.2.2.2.2.2.2.2.2.2.1,()) (lK)) fun v24=>
   Option.bind (oo v24.1) fun r25=>
   some (r25.1,r25.2.1,()))
abbrev fA:Type:=(List bp)×(List bp)×Int×Int×Unit
abbrev kC:Type:=((Bool×Unit) ⊕ Unit)
def gO (x1:fA) (again:fA→Option kC):Option kC:=
 bif decide (x1.2.2.2.1<x1.2.2.1) then
  Option.bind (idx x1.1 x1.2.2.2.1) fun y2=>
  Option.bind (idx x1.2.1 x1.2.2.2.1) fun y3=>
  bif !((y2.1==y3.1)&&((y2.2.1==y3.2.1)&&(((y2.2.2.1==y3.2.2.1)&&((y2.2.2.2==y3.2.2.2)&&true))&&true))) then
   some (Sum.inl (false,()))
  else
   again (x1.1,x1.2.1,x1.2.2.1,w64 (x1.2.2.2.1+1),())
 else
  some (Sum.inr ())
def iX (a0:List bp) (a1:List bp):Option (Bool×Unit):=
 bif ((List.length a0:Int)) != ((List.length a1:Int)) then
  some (false,())
 else
  aW (β:=(Bool×Unit)) (γ:=Unit) (
   iter (X:=fA) (β:=kC) (List.length a0+(List.length a1+(Int.natAbs ((List.length a0:Int))+(Int.natAbs (0:Int)+2)))) (a0,a1,(List.length a0:Int),0,()) (gO)) fun _=>
  some (true,())
def jv (a0:aq):Option (Bool×Unit):=
 Option.bind (v8 a0) fun r1=>
 Option.bind (kN a0 r1.1) fun r2=>
 bif r2.2.1 != 0 then
  Option.bind (
   bif ((r2.1.length:Int))==0 then
    Option.bind (Bb) fun r3=>
    some (r3.1,())
   else
    some (false,())) fun v4=>
  some (v4.1,())
 else
  Option.bind (ux a0 []) fun r5=>
  Option.bind (v8 a0) fun r6=>
  Option.bind (rB a0 r6.1) fun r7=>
  Option.bind (
   bif ((r2.1.length:Int))==0 then
    bif r5.2.1==r7.2.1 then
     Option.bind (iX r5.1 r7.1) fun r8=>
     bif r8.1 then
      Option.bind (Bb) fun r9=>
      some (r9.1,())
     else
      some (false,())
    else
     some (false,())
   else
    some (false,())) fun v10=>
  some (v10.1,())
end
end Go.Md
