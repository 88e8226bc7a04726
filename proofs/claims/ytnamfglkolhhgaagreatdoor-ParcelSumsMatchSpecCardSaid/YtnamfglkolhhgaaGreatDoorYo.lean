/-
  The plain models of the functions that the law reaches, third part. No condition.
-/
import Derived.Test.YtnamfglkolhhgaaGreatDoorYn
import Derived.Test.YtnamfglkolhhgaaGreatDoorYa
import Derived.Test.YtnamfglkolhhgaaGreatDoorYd
set_option linter.all false
set_option linter.all false
namespace Go.Md
open Go.Dn
def cz (a b:List UInt8×List UInt8):Int:=bif Lib.compareBytes a.1 b.1==0 then Lib.compareBytes a.2 b.2 else Lib.compareBytes a.1 b.1
noncomputable section
abbrev bT:Ty:=(.st (.pair .str (.pair .str bR)))
abbrev ax:Type:=(List UInt8)×(List UInt8)×ak
def iL (a0:List (aU×an)) (a1:aU) (a2:ak):Option ((List (aU×an))×Unit):=
 bif !(Option.isSome (bZ (k:=aG) (v:=aI) a0 a1)) then
  Option.bind (mw 0) fun r1=>
  Option.bind (ew a2 9) fun r2=>
  Option.bind (eD r1.1 r2.1) fun r3=>
  some (gJ (k:=aG) (v:=aI) a0 a1 r3.1,())
 else
  Option.bind (ew a2 9) fun r4=>
  Option.bind (eD (Option.getD (α:=an) (bZ (k:=aG) (v:=aI) a0 a1) (false,[])) r4.1) fun r5=>
  some (gJ (k:=aG) (v:=aI) a0 a1 r5.1,())
abbrev jb:Type:=(List ax)×Int×Int×(List aU)×(List (aU×an))×Unit
abbrev ja:Type:=(((List ax)×Int×(List (aU×an))×Unit) ⊕ ((List ax)×(List (aU×an))×Unit))
def gp (x1:jb) (again:jb→Option ja):Option ja:=
 bif decide (x1.2.2.1<x1.2.1) then
  chk (decide (0≤x1.2.2.1)&&decide (x1.2.2.1<(x1.2.2.2.1.length:Int))) <|
  Option.bind (x1.2.2.2.1[x1.2.2.1.toNat]?) fun y2=>
  Option.bind (sj (Option.getD (α:=an) (bZ (k:=aG) (v:=aI) x1.2.2.2.2.1 y2) (false,[]))) fun r3=>
  bif r3.2.1 != 0 then
   some (Sum.inl ([],r3.2.1,x1.2.2.2.2.1,()))
  else
   bif r3.1.1 != 0 then
    chk (decide (((x1.1.length)+1)*48≤140737488355328)&&decide ((x1.1.length)+1≤maxLen)) <|
    again (x1.1++[(y2.1,y2.2,r3.1)],x1.2.1,w64 (x1.2.2.1+1),x1.2.2.2.1,x1.2.2.2.2.1,())
   else
    again (x1.1,x1.2.1,w64 (x1.2.2.1+1),x1.2.2.2.1,x1.2.2.2.2.1,())
 else
  some (Sum.inr (x1.1,x1.2.2.2.2.1,()))
def rm (a0:List (aU×an)):Option ((List ax)×Int×(List (aU×an))×Unit):=
 chk (uy cz a0) <|
 aX (β:=((List ax)×Int×(List (aU×an))×Unit)) (γ:=((List ax)×(List (aU×an))×Unit)) (
  iter (X:=jb) (β:=ja) (List.length ([]:List ax)+(Int.natAbs ((List.length (gP cz a0):Int))+(Int.natAbs (0:Int)+(List.length ((gP cz a0):List aU)+(List.length a0+2))))) ([],(List.length (gP cz a0):Int),0,gP cz a0,a0,()) (gp)) fun v4=>
 some (v4.1,0,v4.2.1,())
abbrev iZ:Type:=(List UInt8)×(List ah)×Int×Int×(List ai)×Int×Int×(List UInt8)×(List UInt8)×Int×(List ah)×(List (aU×an))×Unit
abbrev mA:Type:=((((List ax)×Int×Unit) ⊕ ((List (aU×an))×Unit)) ⊕ ((List UInt8)×(List ah)×Int×Int×(List UInt8)×(List UInt8)×Int×(List ah)×(List (aU×an))×Unit))
def mz (x1:iZ) (again:iZ→Option mA):Option mA:=
 bif decide (x1.2.2.2.2.2.2.1<x1.2.2.2.2.2.1) then
  Option.bind (idx x1.2.2.2.2.1 x1.2.2.2.2.2.2.1) fun y2=>
  Option.bind (iL x1.2.2.2.2.2.2.2.2.2.2.2.1 (y2.1,y2.2.1) y2.2.2.2) fun r3=>
  again (x1.1,x1.2.1,x1.2.2.1,x1.2.2.2.1,x1.2.2.2.2.1,x1.2.2.2.2.2.1,w64 (x1.2.2.2.2.2.2.1+1),x1.2.2.2.2.2.2.2.1,x1.2.2.2.2.2.2.2.2.1,x1.2.2.2.2.2.2.2.2.2.1,x1.2.2.2.2.2.2.2.2.2.2.1,r3.1,())
 else
  some (Sum.inr (x1.1,x1.2.1,x1.2.2.1,x1.2.2.2.1,x1.2.2.2.2.2.2.2.1,x1.2.2.2.2.2.2.2.2.1,x1.2.2.2.2.2.2.2.2.2.1,x1.2.2.2.2.2.2.2.2.2.2.1,x1.2.2.2.2.2.2.2.2.2.2.2.1,()))
abbrev jK:Type:=(List UInt8)×(List ah)×Int×Int×(List UInt8)×(List UInt8)×Int×(List ah)×(List (aU×an))×Unit
abbrev nL:Type:=(((List ax)×Int×Unit) ⊕ ((List (aU×an))×Unit))
def nK (x1:jK) (again:jK→Option nL):Option nL:=
 bif decide (x1.2.2.2.1<x1.2.2.1) then
  Option.bind (idx x1.2.1 x1.2.2.2.1) fun y2=>
  Option.bind (gM (x1.2.2.2.2.1,x1.2.2.2.2.2.1,x1.2.2.2.2.2.2.1,x1.2.2.2.2.2.2.2.1) x1.2.2.2.1 x1.1) fun r3=>
  bif !r3.1 then
   again (x1.1,x1.2.1,x1.2.2.1,w64 (x1.2.2.2.1+1),x1.2.2.2.2.1,x1.2.2.2.2.2.1,x1.2.2.2.2.2.2.1,x1.2.2.2.2.2.2.2.1,x1.2.2.2.2.2.2.2.2.1,())
  else
   aX (β:=(((List ax)×Int×Unit) ⊕ ((List (aU×an))×Unit))) (γ:=((List UInt8)×(List ah)×Int×Int×(List UInt8)×(List UInt8)×Int×(List ah)×(List (aU×an))×Unit)) (
    iter (X:=iZ) (β:=mA) (x1.1.length+(x1.2.1.length+(x1.2.2.1.natAbs+(x1.2.2.2.1.natAbs+(y2.2.2.2.length+(Int.natAbs ((y2.2.2.2.length:Int))+(Int.natAbs (0:Int)+(x1.2.2.2.2.1.length+(x1.2.2.2.2.2.1.length+(x1.2.2.2.2.2.2.1.natAbs+(x1.2.2.2.2.2.2.2.1.length+(x1.2.2.2.2.2.2.2.2.1.length+2)))))))))))) (x1.1,x1.2.1,x1.2.2.1,x1.2.2.2.1,y2.2.2.2,(y2.2.2.2.length:Int),0,x1.2.2.2.2.1,x1.2.2.2.2.2.1,x1.2.2.2.2.2.2.1,x1.2.2.2.2.2.2.2.1,x1.2.2.2.2.2.2.2.2.1,()) (mz)) fun v4=>
   again (v4.1,v4.2.1,v4.2.2.1,w64 (v4.2.2.2.1+1),v4.2.2.2.2.1,v4.2.2.2.2.2.1,v4.2.2.2.2.2.2.1,v4.2.2.2.2.2.2.2.1,v4.2.2.2.2.2.2.2.2.1,())
 else
  some (Sum.inr (x1.2.2.2.2.2.2.2.2.1,()))
def sO (a0:aS) (a1:List UInt8):Option ((List ax)×Int×Unit):=
 Option.bind (jc a0 a1 true) fun r1=>
 bif r1.1 != 0 then
  some ([],r1.1,())
 else
  aX (β:=((List ax)×Int×Unit)) (γ:=((List (aU×an))×Unit)) (
   iter (X:=jK) (β:=nL) (List.length a1+(a0.2.2.2.length+(Int.natAbs ((a0.2.2.2.length:Int))+(Int.natAbs (0:Int)+(a0.1.length+(a0.2.1.length+(a0.2.2.1.natAbs+(a0.2.2.2.length+(List.length ([]:List (aU×an))+2))))))))) (a1,a0.2.2.2,(a0.2.2.2.length:Int),0,a0.1,a0.2.1,a0.2.2.1,a0.2.2.2,[],()) (nK)) fun v9=>
  Option.bind (rm v9.1) fun r10=>
  some (r10.1,r10.2.1,())
end
end Go.Md
set_option linter.all false
namespace Go.Md
open Go.Dn
noncomputable section
def pe (a0:List (aU×an)) (a1:aU) (a2:ak):Option ((List (aU×an))×Unit):=
 bif !(Option.isSome (bZ (k:=aG) (v:=aI) a0 a1)) then
  Option.bind (mw 0) fun r1=>
  Option.bind (ew a2 9) fun r2=>
  Option.bind (eD r1.1 r2.1) fun r3=>
  some (gJ (k:=aG) (v:=aI) a0 a1 r3.1,())
 else
  Option.bind (ew a2 9) fun r4=>
  Option.bind (eD (Option.getD (α:=an) (bZ (k:=aG) (v:=aI) a0 a1) (false,[])) r4.1) fun r5=>
  some (gJ (k:=aG) (v:=aI) a0 a1 r5.1,())
abbrev lE:Type:=(List UInt8)×(List ah)×Int×Int×(List ai)×Int×Int×(List (aU×an))×Unit
abbrev pL:Type:=((((List ax)×Int×Unit) ⊕ ((List (aU×an))×Unit)) ⊕ ((List UInt8)×(List ah)×Int×Int×(List (aU×an))×Unit))
def pK (x1:lE) (again:lE→Option pL):Option pL:=
 bif decide (x1.2.2.2.2.2.2.1<x1.2.2.2.2.2.1) then
  Option.bind (idx x1.2.2.2.2.1 x1.2.2.2.2.2.2.1) fun y2=>
  bif y2.1==x1.1 then
   Option.bind (pe x1.2.2.2.2.2.2.2.1 (y2.2.2.1,y2.2.1) y2.2.2.2) fun r3=>
   again (x1.1,x1.2.1,x1.2.2.1,x1.2.2.2.1,x1.2.2.2.2.1,x1.2.2.2.2.2.1,w64 (x1.2.2.2.2.2.2.1+1),r3.1,())
  else
   again (x1.1,x1.2.1,x1.2.2.1,x1.2.2.2.1,x1.2.2.2.2.1,x1.2.2.2.2.2.1,w64 (x1.2.2.2.2.2.2.1+1),x1.2.2.2.2.2.2.2.1,())
 else
  some (Sum.inr (x1.1,x1.2.1,x1.2.2.1,x1.2.2.2.1,x1.2.2.2.2.2.2.2.1,()))
abbrev mQ:Type:=(List UInt8)×(List ah)×Int×Int×(List (aU×an))×Unit
abbrev rj:Type:=(((List ax)×Int×Unit) ⊕ ((List (aU×an))×Unit))
def ri (x1:mQ) (again:mQ→Option rj):Option rj:=
 bif decide (x1.2.2.2.1<x1.2.2.1) then
  Option.bind (idx x1.2.1 x1.2.2.2.1) fun y2=>
  aX (β:=(((List ax)×Int×Unit) ⊕ ((List (aU×an))×Unit))) (γ:=((List UInt8)×(List ah)×Int×Int×(List (aU×an))×Unit)) (
   iter (X:=lE) (β:=pL) (x1.1.length+(x1.2.1.length+(x1.2.2.1.natAbs+(x1.2.2.2.1.natAbs+(y2.2.2.2.length+(Int.natAbs ((y2.2.2.2.length:Int))+(Int.natAbs (0:Int)+(x1.2.2.2.2.1.length+2)))))))) (x1.1,x1.2.1,x1.2.2.1,x1.2.2.2.1,y2.2.2.2,(y2.2.2.2.length:Int),0,x1.2.2.2.2.1,()) (pK)) fun v3=>
  again (v3.1,v3.2.1,v3.2.2.1,w64 (v3.2.2.2.1+1),v3.2.2.2.2.1,())
 else
  some (Sum.inr (x1.2.2.2.2.1,()))
abbrev lF:Type:=(List ax)×Int×Int×(List aU)×(List (aU×an))×Unit
abbrev lD:Type:=(((List ax)×Int×Unit) ⊕ ((List ax)×Unit))
def iJ (x1:lF) (again:lF→Option lD):Option lD:=
 bif decide (x1.2.2.1<x1.2.1) then
  chk (decide (0≤x1.2.2.1)&&decide (x1.2.2.1<(x1.2.2.2.1.length:Int))) <|
  Option.bind (x1.2.2.2.1[x1.2.2.1.toNat]?) fun y2=>
  Option.bind (sj (Option.getD (α:=an) (bZ (k:=aG) (v:=aI) x1.2.2.2.2.1 y2) (false,[]))) fun r3=>
  bif r3.2.1 != 0 then
   some (Sum.inl ([],r3.2.1,()))
  else
   chk (decide (((x1.1.length)+1)*48≤140737488355328)&&decide ((x1.1.length)+1≤maxLen)) <|
   again (x1.1++[(y2.1,y2.2,r3.1)],x1.2.1,w64 (x1.2.2.1+1),x1.2.2.2.1,x1.2.2.2.2.1,())
 else
  some (Sum.inr (x1.1,()))
def xB (a0:aS) (a1:List UInt8):Option ((List ax)×Int×Unit):=
 Option.bind (iq a0) fun r1=>
 bif r1.1 != 0 then
  some ([],r1.1,())
 else
  Option.bind (dQ a1) fun r2=>
  bif !r2.1 then
   some ([],5,())
  else
   aX (β:=((List ax)×Int×Unit)) (γ:=((List (aU×an))×Unit)) (
    iter (X:=mQ) (β:=rj) (List.length a1+(a0.2.2.2.length+(Int.natAbs ((a0.2.2.2.length:Int))+(Int.natAbs (0:Int)+(List.length ([]:List (aU×an))+2))))) (a1,a0.2.2.2,(a0.2.2.2.length:Int),0,[],()) (ri)) fun v9=>
   chk (uy cz v9.1) <|
   aX (β:=((List ax)×Int×Unit)) (γ:=((List ax)×Unit)) (
    iter (X:=lF) (β:=lD) (List.length ([]:List ax)+(Int.natAbs ((List.length (gP cz v9.1):Int))+(Int.natAbs (0:Int)+(List.length ((gP cz v9.1):List aU)+(v9.1.length+2))))) ([],(List.length (gP cz v9.1):Int),0,gP cz v9.1,v9.1,()) (iJ)) fun v13=>
   some (v13.1,0,())
end
end Go.Md
set_option linter.all false
namespace Go.Md
open Go.Dn
abbrev fQ:List ai→Int→List ai→Option (List ai×Unit):=sL 64
abbrev dF:List aa→Int→List aa→Option (List aa×Unit):=sL 32
noncomputable section
abbrev pP:Type:=Int×(List UInt8)×(List UInt8)×(List UInt8)×Int×Int×Bool×(List Int)×(List ai)×(List aa)×Unit
abbrev pO:Type:=((((List ai)×(List aa)×Unit)×Unit) ⊕ (Int×(List UInt8)×(List UInt8)×(List UInt8)×Int×Int×Bool×(List Int)×(List ai)×(List aa)×Unit))
def lP (x1:pP) (again:pP→Option pO):Option pO:=
 Option.bind (
  bif decide (x1.1<((x1.2.2.2.2.2.2.2.2.1.length:Int))) then
   chk (decide (0≤x1.1)&&decide (x1.1<(x1.2.2.2.2.2.2.2.2.1.length:Int))) <|
   Option.bind (x1.2.2.2.2.2.2.2.2.1[x1.1.toNat]?) fun y2=>
   Option.bind (fE y2 (x1.2.1,x1.2.2.1,x1.2.2.2.1,x1.2.2.2.2.1,x1.2.2.2.2.2.1)) fun r3=>
   some (decide (r3.1<0),())
  else
   some (false,())) fun v4=>
 bif v4.1 then
  again (w64 (x1.1+1),x1.2.1,x1.2.2.1,x1.2.2.2.1,x1.2.2.2.2.1,x1.2.2.2.2.2.1,x1.2.2.2.2.2.2.1,x1.2.2.2.2.2.2.2.1,x1.2.2.2.2.2.2.2.2.1,x1.2.2.2.2.2.2.2.2.2.1,())
 else
  some (Sum.inr (x1.1,x1.2.1,x1.2.2.1,x1.2.2.2.1,x1.2.2.2.2.1,x1.2.2.2.2.2.1,x1.2.2.2.2.2.2.1,x1.2.2.2.2.2.2.2.1,x1.2.2.2.2.2.2.2.2.1,x1.2.2.2.2.2.2.2.2.2.1,()))
def mT (a0:(List ai)×(List aa)×Unit) (a1:ai) (a2:aa):Option (((List ai)×(List aa)×Unit)×Unit):=
 aX (β:=(((List ai)×(List aa)×Unit)×Unit)) (γ:=(Int×(List UInt8)×(List UInt8)×(List UInt8)×Int×Int×Bool×(List Int)×(List ai)×(List aa)×Unit)) (
  iter (X:=pP) (β:=pO) (Int.natAbs (0:Int)+(a1.1.length+(a1.2.1.length+(a1.2.2.1.length+(Int.natAbs (0:Int)+(Int.natAbs (0:Int)+(a2.2.length+(a0.1.length+(a0.2.1.length+2))))))))) (0,a1.1,a1.2.1,a1.2.2.1,0,0,a2.1,a2.2,a0.1,a0.2.1,()) (lP)) fun v5=>
 bif v5.1==((v5.2.2.2.2.2.2.2.2.1.length:Int)) then
  aX (β:=(((List ai)×(List aa)×Unit)×Unit)) (γ:=(Int×Bool×(List Int)×(List ai)×(List aa)×Unit)) (
   Option.bind (fQ v5.2.2.2.2.2.2.2.2.1 v5.1 [(v5.2.1,v5.2.2.1,v5.2.2.2.1,v5.2.2.2.2.1,v5.2.2.2.2.2.1)]) fun r6=>
   Option.bind (dF v5.2.2.2.2.2.2.2.2.2.1 v5.1 [(false,[])]) fun r7=>
   some (Sum.inr (v5.1,v5.2.2.2.2.2.2.1,v5.2.2.2.2.2.2.2.1,r6.1,r7.1,()))) fun v8=>
  chk (decide (0≤v8.1)&&decide (v8.1<(v8.2.2.2.2.1.length:Int))) <|
  Option.bind (v8.2.2.2.2.1[v8.1.toNat]?) fun y9=>
  Option.bind (rA y9 (v8.2.1,v8.2.2.1)) fun r10=>
  chk (decide (0≤v8.1)&&decide (v8.1<(v8.2.2.2.2.1.length:Int))) <|
  Option.bind (v8.2.2.2.2.1[v8.1.toNat]?) fun _=>
  some ((v8.2.2.2.1,List.set v8.2.2.2.2.1 v8.1.toNat r10.1,()),())
 else
  chk (decide (0≤v5.1)&&decide (v5.1<(v5.2.2.2.2.2.2.2.2.1.length:Int))) <|
  Option.bind (v5.2.2.2.2.2.2.2.2.1[v5.1.toNat]?) fun y12=>
  aX (β:=(((List ai)×(List aa)×Unit)×Unit)) (γ:=(Int×Bool×(List Int)×(List ai)×(List aa)×Unit)) (
   bif !((y12.1==v5.2.1)&&((y12.2.1==v5.2.2.1)&&((y12.2.2.1==v5.2.2.2.1)&&(((y12.2.2.2.1==v5.2.2.2.2.1)&&((y12.2.2.2.2==v5.2.2.2.2.2.1)&&true))&&true)))) then
    Option.bind (fQ v5.2.2.2.2.2.2.2.2.1 v5.1 [(v5.2.1,v5.2.2.1,v5.2.2.2.1,v5.2.2.2.2.1,v5.2.2.2.2.2.1)]) fun r13=>
    Option.bind (dF v5.2.2.2.2.2.2.2.2.2.1 v5.1 [(false,[])]) fun r14=>
    some (Sum.inr (v5.1,v5.2.2.2.2.2.2.1,v5.2.2.2.2.2.2.2.1,r13.1,r14.1,()))
   else
    some (Sum.inr (v5.1,v5.2.2.2.2.2.2.1,v5.2.2.2.2.2.2.2.1,v5.2.2.2.2.2.2.2.2.1,v5.2.2.2.2.2.2.2.2.2.1,()))) fun v15=>
  chk (decide (0≤v15.1)&&decide (v15.1<(v15.2.2.2.2.1.length:Int))) <|
  Option.bind (v15.2.2.2.2.1[v15.1.toNat]?) fun y16=>
  Option.bind (rA y16 (v15.2.1,v15.2.2.1)) fun r17=>
  chk (decide (0≤v15.1)&&decide (v15.1<(v15.2.2.2.2.1.length:Int))) <|
  Option.bind (v15.2.2.2.2.1[v15.1.toNat]?) fun _=>
  some ((v15.2.2.2.1,List.set v15.2.2.2.2.1 v15.1.toNat r17.1,()),())
abbrev mC:Type:=(List ax)×Int×Int×(List ai)×(List aa)×Unit
abbrev mB:Type:=(((List ax)×Int×((List ai)×(List aa)×Unit)×Unit) ⊕ ((List ax)×(List ai)×(List aa)×Unit))
def je (x1:mC) (again:mC→Option mB):Option mB:=
 bif decide (x1.2.2.1<x1.2.1) then
  chk (decide (0≤x1.2.2.1)&&decide (x1.2.2.1<(x1.2.2.2.1.length:Int))) <|
  Option.bind (x1.2.2.2.1[x1.2.2.1.toNat]?) fun y2=>
  chk (decide (0≤x1.2.2.1)&&decide (x1.2.2.1<(x1.2.2.2.2.1.length:Int))) <|
  Option.bind (x1.2.2.2.2.1[x1.2.2.1.toNat]?) fun y3=>
  Option.bind (AU y3) fun r4=>
  bif r4.2.1 != 0 then
   some (Sum.inl ([],r4.2.1,(x1.2.2.2.1,x1.2.2.2.2.1,()),()))
  else
   bif r4.1.1 != 0 then
    chk (decide (((x1.1.length)+1)*48≤140737488355328)&&decide ((x1.1.length)+1≤maxLen)) <|
    again (x1.1++[(y2.1,y2.2.1,r4.1)],x1.2.1,w64 (x1.2.2.1+1),x1.2.2.2.1,x1.2.2.2.2.1,())
   else
    again (x1.1,x1.2.1,w64 (x1.2.2.1+1),x1.2.2.2.1,x1.2.2.2.2.1,())
 else
  some (Sum.inr (x1.1,x1.2.2.2.1,x1.2.2.2.2.1,()))
def rz (a0:(List ai)×(List aa)×Unit):Option ((List ax)×Int×((List ai)×(List aa)×Unit)×Unit):=
 aX (β:=((List ax)×Int×((List ai)×(List aa)×Unit)×Unit)) (γ:=((List ax)×(List ai)×(List aa)×Unit)) (
  iter (X:=mC) (β:=mB) (List.length ([]:List ax)+(Int.natAbs ((a0.1.length:Int))+(Int.natAbs (0:Int)+(a0.1.length+(a0.2.1.length+2))))) ([],(a0.1.length:Int),0,a0.1,a0.2.1,()) (je)) fun v5=>
 some (v5.1,0,(v5.2.1,v5.2.2.1,()),())
abbrev ry:Type:=(List Int)×Int×Int×(List ai)×Int×Int×(List UInt8)×(List UInt8)×Int×(List ah)×(List ai)×(List aa)×Unit
abbrev ru:Type:=((((List ax)×Int×Unit) ⊕ ((List ai)×(List aa)×Unit)) ⊕ ((List Int)×Int×Int×(List UInt8)×(List UInt8)×Int×(List ah)×(List ai)×(List aa)×Unit))
def mR (x1:ry) (again:ry→Option ru):Option ru:=
 bif decide (x1.2.2.2.2.2.1<x1.2.2.2.2.1) then
  Option.bind (idx x1.2.2.2.1 x1.2.2.2.2.2.1) fun y2=>
  Option.bind (qy y2.2.2.2) fun r3=>
  Option.bind (mT (x1.2.2.2.2.2.2.2.2.2.2.1,x1.2.2.2.2.2.2.2.2.2.2.2.1,()) (y2.1,y2.2.1,[],0,0) r3.1) fun r4=>
  again (x1.1,x1.2.1,x1.2.2.1,x1.2.2.2.1,x1.2.2.2.2.1,w64 (x1.2.2.2.2.2.1+1),x1.2.2.2.2.2.2.1,x1.2.2.2.2.2.2.2.1,x1.2.2.2.2.2.2.2.2.1,x1.2.2.2.2.2.2.2.2.2.1,r4.1.1,r4.1.2.1,())
 else
  some (Sum.inr (x1.1,x1.2.1,x1.2.2.1,x1.2.2.2.2.2.2.1,x1.2.2.2.2.2.2.2.1,x1.2.2.2.2.2.2.2.2.1,x1.2.2.2.2.2.2.2.2.2.1,x1.2.2.2.2.2.2.2.2.2.2.1,x1.2.2.2.2.2.2.2.2.2.2.2.1,()))
abbrev sQ:Type:=(List Int)×Int×Int×(List UInt8)×(List UInt8)×Int×(List ah)×(List ai)×(List aa)×Unit
abbrev sP:Type:=(((List ax)×Int×Unit) ⊕ ((List ai)×(List aa)×Unit))
def oE (x1:sQ) (again:sQ→Option sP):Option sP:=
 bif decide (x1.2.2.1<x1.2.1) then
  Option.bind (idx x1.1 x1.2.2.1) fun y2=>
  Option.bind (idx x1.2.2.2.2.2.2.1 y2) fun y3=>
  aX (β:=(((List ax)×Int×Unit) ⊕ ((List ai)×(List aa)×Unit))) (γ:=((List Int)×Int×Int×(List UInt8)×(List UInt8)×Int×(List ah)×(List ai)×(List aa)×Unit)) (
   iter (X:=ry) (β:=ru) (x1.1.length+(x1.2.1.natAbs+(x1.2.2.1.natAbs+(y3.2.2.2.length+(Int.natAbs ((y3.2.2.2.length:Int))+(Int.natAbs (0:Int)+(x1.2.2.2.1.length+(x1.2.2.2.2.1.length+(x1.2.2.2.2.2.1.natAbs+(x1.2.2.2.2.2.2.1.length+(x1.2.2.2.2.2.2.2.1.length+(x1.2.2.2.2.2.2.2.2.1.length+2)))))))))))) (x1.1,x1.2.1,x1.2.2.1,y3.2.2.2,(y3.2.2.2.length:Int),0,x1.2.2.2.1,x1.2.2.2.2.1,x1.2.2.2.2.2.1,x1.2.2.2.2.2.2.1,x1.2.2.2.2.2.2.2.1,x1.2.2.2.2.2.2.2.2.1,()) (mR)) fun v4=>
  again (v4.1,v4.2.1,w64 (v4.2.2.1+1),v4.2.2.2.1,v4.2.2.2.2.1,v4.2.2.2.2.2.1,v4.2.2.2.2.2.2.1,v4.2.2.2.2.2.2.2.1,v4.2.2.2.2.2.2.2.2.1,())
 else
  some (Sum.inr (x1.2.2.2.2.2.2.2.1,x1.2.2.2.2.2.2.2.2.1,()))
def zU (a0:aS) (a1:List UInt8):Option ((List ax)×Int×Unit):=
 Option.bind (lI a0) fun r1=>
 bif r1.1 != 0 then
  some ([],r1.1,())
 else
  Option.bind (
   bif !(a1==[]) then
    Option.bind (gh a0.2.2.2 a1) fun r2=>
    some (decide (r2.1<0),())
   else
    some (false,())) fun v3=>
  bif v3.1 then
   some ([],9,())
  else
   Option.bind (nQ a0.2.2.2 a1) fun r4=>
   aX (β:=((List ax)×Int×Unit)) (γ:=((List ai)×(List aa)×Unit)) (
    iter (X:=sQ) (β:=sP) (r4.1.length+(Int.natAbs ((r4.1.length:Int))+(Int.natAbs (0:Int)+(a0.1.length+(a0.2.1.length+(a0.2.2.1.natAbs+(a0.2.2.2.length+(List.length ([]:List ai)+(List.length ([]:List aa)+2))))))))) (r4.1,(r4.1.length:Int),0,a0.1,a0.2.1,a0.2.2.1,a0.2.2.2,[],[],()) (oE)) fun v13=>
   Option.bind (rz (v13.1,v13.2.1,())) fun r14=>
   some (r14.1,r14.2.1,())
abbrev dU:Type:=(List ax)×(List ax)×Int×Int×Unit
abbrev fN:Type:=((Bool×Unit) ⊕ Unit)
def fM (x1:dU) (again:dU→Option fN):Option fN:=
 bif decide (x1.2.2.2.1<x1.2.2.1) then
  Option.bind (idx x1.1 x1.2.2.2.1) fun y2=>
  Option.bind (idx x1.2.1 x1.2.2.2.1) fun y3=>
  bif !((y2.1==y3.1)&&((y2.2.1==y3.2.1)&&(((y2.2.2.1==y3.2.2.1)&&((y2.2.2.2==y3.2.2.2)&&true))&&true))) then
   some (Sum.inl (false,()))
  else
   again (x1.1,x1.2.1,x1.2.2.1,w64 (x1.2.2.2.1+1),())
 else
  some (Sum.inr ())
def gU (a0:List ax) (a1:List ax):Option (Bool×Unit):=
 bif ((List.length a0:Int)) != ((List.length a1:Int)) then
  some (false,())
 else
  aX (β:=(Bool×Unit)) (γ:=Unit) (
   iter (X:=dU) (β:=fN) (List.length a0+(List.length a1+(Int.natAbs ((List.length a0:Int))+(Int.natAbs (0:Int)+2)))) (a0,a1,(List.length a0:Int),0,()) (fM)) fun _=>
  some (true,())
abbrev vh:Type:=(List UInt8)×(List ah)×Int×Int×(List ai)×Int×Int×(List ai)×(List aa)×Unit
abbrev vf:Type:=((((List ax)×Int×Unit) ⊕ ((List ai)×(List aa)×Unit)) ⊕ ((List UInt8)×(List ah)×Int×Int×(List ai)×(List aa)×Unit))
def jM (x1:vh) (again:vh→Option vf):Option vf:=
 bif decide (x1.2.2.2.2.2.2.1<x1.2.2.2.2.2.1) then
  Option.bind (idx x1.2.2.2.2.1 x1.2.2.2.2.2.2.1) fun y2=>
  bif y2.1==x1.1 then
   Option.bind (qy y2.2.2.2) fun r3=>
   Option.bind (mT (x1.2.2.2.2.2.2.2.1,x1.2.2.2.2.2.2.2.2.1,()) (y2.2.2.1,y2.2.1,[],0,0) r3.1) fun r4=>
   again (x1.1,x1.2.1,x1.2.2.1,x1.2.2.2.1,x1.2.2.2.2.1,x1.2.2.2.2.2.1,w64 (x1.2.2.2.2.2.2.1+1),r4.1.1,r4.1.2.1,())
  else
   again (x1.1,x1.2.1,x1.2.2.1,x1.2.2.2.1,x1.2.2.2.2.1,x1.2.2.2.2.2.1,w64 (x1.2.2.2.2.2.2.1+1),x1.2.2.2.2.2.2.2.1,x1.2.2.2.2.2.2.2.2.1,())
 else
  some (Sum.inr (x1.1,x1.2.1,x1.2.2.1,x1.2.2.2.1,x1.2.2.2.2.2.2.2.1,x1.2.2.2.2.2.2.2.2.1,()))
abbrev xD:Type:=(List UInt8)×(List ah)×Int×Int×(List ai)×(List aa)×Unit
abbrev xC:Type:=(((List ax)×Int×Unit) ⊕ ((List ai)×(List aa)×Unit))
def sk (x1:xD) (again:xD→Option xC):Option xC:=
 bif decide (x1.2.2.2.1<x1.2.2.1) then
  Option.bind (idx x1.2.1 x1.2.2.2.1) fun y2=>
  aX (β:=(((List ax)×Int×Unit) ⊕ ((List ai)×(List aa)×Unit))) (γ:=((List UInt8)×(List ah)×Int×Int×(List ai)×(List aa)×Unit)) (
   iter (X:=vh) (β:=vf) (x1.1.length+(x1.2.1.length+(x1.2.2.1.natAbs+(x1.2.2.2.1.natAbs+(y2.2.2.2.length+(Int.natAbs ((y2.2.2.2.length:Int))+(Int.natAbs (0:Int)+(x1.2.2.2.2.1.length+(x1.2.2.2.2.2.1.length+2))))))))) (x1.1,x1.2.1,x1.2.2.1,x1.2.2.2.1,y2.2.2.2,(y2.2.2.2.length:Int),0,x1.2.2.2.2.1,x1.2.2.2.2.2.1,()) (jM)) fun v3=>
  again (v3.1,v3.2.1,v3.2.2.1,w64 (v3.2.2.2.1+1),v3.2.2.2.2.1,v3.2.2.2.2.2.1,())
 else
  some (Sum.inr (x1.2.2.2.2.1,x1.2.2.2.2.2.1,()))
abbrev vi:Type:=(List ax)×(List ai)×Int×Int×(List ai)×(List aa)×Unit
abbrev vg:Type:=(((List ax)×Int×Unit) ⊕ ((List ax)×Unit))
def qw (x1:vi) (again:vi→Option vg):Option vg:=
 bif decide (x1.2.2.2.1<x1.2.2.1) then
  Option.bind (idx x1.2.1 x1.2.2.2.1) fun y2=>
  chk (decide (0≤x1.2.2.2.1)&&decide (x1.2.2.2.1<(x1.2.2.2.2.2.1.length:Int))) <|
  Option.bind (x1.2.2.2.2.2.1[x1.2.2.2.1.toNat]?) fun y3=>
  Option.bind (AU y3) fun r4=>
  bif r4.2.1 != 0 then
   some (Sum.inl ([],r4.2.1,()))
  else
   chk (decide (((x1.1.length)+1)*48≤140737488355328)&&decide ((x1.1.length)+1≤maxLen)) <|
   again (x1.1++[(y2.1,y2.2.1,r4.1)],x1.2.1,x1.2.2.1,w64 (x1.2.2.2.1+1),x1.2.2.2.2.1,x1.2.2.2.2.2.1,())
 else
  some (Sum.inr (x1.1,()))
def EN (a0:aS) (a1:List UInt8):Option ((List ax)×Int×Unit):=
 Option.bind (lI a0) fun r1=>
 bif r1.1 != 0 then
  some ([],r1.1,())
 else
  Option.bind (lR a1) fun r2=>
  bif !r2.1 then
   some ([],5,())
  else
   aX (β:=((List ax)×Int×Unit)) (γ:=((List ai)×(List aa)×Unit)) (
    iter (X:=xD) (β:=xC) (List.length a1+(a0.2.2.2.length+(Int.natAbs ((a0.2.2.2.length:Int))+(Int.natAbs (0:Int)+(List.length ([]:List ai)+(List.length ([]:List aa)+2)))))) (a1,a0.2.2.2,(a0.2.2.2.length:Int),0,[],[],()) (sk)) fun v10=>
   aX (β:=((List ax)×Int×Unit)) (γ:=((List ax)×Unit)) (
    iter (X:=vi) (β:=vg) (List.length ([]:List ax)+(v10.1.length+(Int.natAbs ((v10.1.length:Int))+(Int.natAbs (0:Int)+(v10.1.length+(v10.2.1.length+2)))))) ([],v10.1,(v10.1.length:Int),0,v10.1,v10.2.1,()) (qw)) fun v15=>
   some (v15.1,0,())
abbrev dV:Type:=(List ax)×(List ax)×Int×Int×Unit
abbrev fP:Type:=((Bool×Unit) ⊕ Unit)
def fO (x1:dV) (again:dV→Option fP):Option fP:=
 bif decide (x1.2.2.2.1<x1.2.2.1) then
  Option.bind (idx x1.1 x1.2.2.2.1) fun y2=>
  Option.bind (idx x1.2.1 x1.2.2.2.1) fun y3=>
  bif !((y2.1==y3.1)&&((y2.2.1==y3.2.1)&&(((y2.2.2.1==y3.2.2.1)&&((y2.2.2.2==y3.2.2.2)&&true))&&true))) then
   some (Sum.inl (false,()))
  else
   again (x1.1,x1.2.1,x1.2.2.1,w64 (x1.2.2.2.1+1),())
 else
  some (Sum.inr ())
def gV (a0:List ax) (a1:List ax):Option (Bool×Unit):=
 bif ((List.length a0:Int)) != ((List.length a1:Int)) then
  some (false,())
 else
  aX (β:=(Bool×Unit)) (γ:=Unit) (
   iter (X:=dV) (β:=fP) (List.length a0+(List.length a1+(Int.natAbs ((List.length a0:Int))+(Int.natAbs (0:Int)+2)))) (a0,a1,(List.length a0:Int),0,()) (fO)) fun _=>
  some (true,())
def gA (a0:aS) (a1:List UInt8) (a2:List UInt8):Option (Bool×Unit):=
 Option.bind (sO a0 a1) fun r1=>
 Option.bind (zU a0 a1) fun r2=>
 bif r1.2.1 != r2.2.1 then
  some (false,())
 else
  Option.bind (gU r1.1 r2.1) fun r3=>
  bif !r3.1 then
   some (false,())
  else
   Option.bind (xB a0 a2) fun r4=>
   Option.bind (EN a0 a2) fun r5=>
   Option.bind (
    bif r4.2.1==r5.2.1 then
     Option.bind (gV r4.1 r5.1) fun r6=>
     bif r6.1 then
      Option.bind (G6) fun r7=>
      some (r7.1,())
     else
      some (false,())
    else
     some (false,())) fun v8=>
   some (v8.1,())
end
end Go.Md
