/-
  The plain models of the functions that the law reaches, fourth part. No condition.
-/
import Derived.Test.YtgmbmgfhpkoajacGreatDoorYo
import Derived.Test.YtgmbmgfhpkoajacGreatDoorYd
namespace Go.Md
open Go.Dn
abbrev slices_Sort_int (l:List Int):Option (List Int×Unit):=TL l
noncomputable section
abbrev eG:Type:=(List (Option Nat))×Int×Int×(List UInt8)×(List UInt8)×(List UInt8)×Int×Int×(List ai)×(List aa)×Int×(List Int)×(List ah)×(List az)×(List (Int×(Option Nat)))×Unit
abbrev gp:Type:=(((List (Option Nat))×(aj×(List aa)×(List (Int×(Option Nat)))×(List ah)×(List az)×Int×Unit)×Unit) ⊕ ((List (Option Nat))×(List UInt8)×(List UInt8)×(List UInt8)×Int×Int×(List ai)×(List aa)×Int×(List ah)×(List az)×(List (Int×(Option Nat)))×Unit))
def gm (x1:eG) (again:eG->Option gp):Option gp:=
 bif decide (x1.2.2.1<x1.2.1) then
  chk (decide (0<=x1.2.2.1)&&decide (x1.2.2.1<(x1.2.2.2.2.2.2.2.2.2.2.2.1.length:Int))) <|
  Option.bind (x1.2.2.2.2.2.2.2.2.2.2.2.1[x1.2.2.1.toNat]?) fun y2=>
  chk (decide (((x1.1.length)+1)*8<=140737488355328)&&decide ((x1.1.length)+1<=maxLen)) <|
  again (x1.1++[(Option.getD (α:=Option Nat) (dL (k:=tI) (v:= .hnd) x1.2.2.2.2.2.2.2.2.2.2.2.2.2.2.1 y2) none)],x1.2.1,w64 (x1.2.2.1+1),x1.2.2.2.1,x1.2.2.2.2.1,x1.2.2.2.2.2.1,x1.2.2.2.2.2.2.1,x1.2.2.2.2.2.2.2.1,x1.2.2.2.2.2.2.2.2.1,x1.2.2.2.2.2.2.2.2.2.1,x1.2.2.2.2.2.2.2.2.2.2.1,x1.2.2.2.2.2.2.2.2.2.2.2.1,x1.2.2.2.2.2.2.2.2.2.2.2.2.1,x1.2.2.2.2.2.2.2.2.2.2.2.2.2.1,x1.2.2.2.2.2.2.2.2.2.2.2.2.2.2.1,())
 else
  some (Sum.inr (x1.1,x1.2.2.2.1,x1.2.2.2.2.1,x1.2.2.2.2.2.1,x1.2.2.2.2.2.2.1,x1.2.2.2.2.2.2.2.1,x1.2.2.2.2.2.2.2.2.1,x1.2.2.2.2.2.2.2.2.2.1,x1.2.2.2.2.2.2.2.2.2.2.1,x1.2.2.2.2.2.2.2.2.2.2.2.2.1,x1.2.2.2.2.2.2.2.2.2.2.2.2.2.1,x1.2.2.2.2.2.2.2.2.2.2.2.2.2.2.1,()))
def iL (a0:aj×(List aa)×(List (Int×(Option Nat)))×(List ah)×(List az)×Int×Unit):Option ((List (Option Nat))×(aj×(List aa)×(List (Int×(Option Nat)))×(List ah)×(List az)×Int×Unit)×Unit):=
 chk (kN a0.2.2.1) <|
 aI (β:=((List (Option Nat))×(aj×(List aa)×(List (Int×(Option Nat)))×(List ah)×(List az)×Int×Unit)×Unit)) (γ:=((List (Option Nat))×(List UInt8)×(List UInt8)×(List UInt8)×Int×Int×(List ai)×(List aa)×Int×(List ah)×(List az)×(List (Int×(Option Nat)))×Unit)) (
  iter (X:=eG) (β:=gp) (List.length ([]:List (Option Nat))+(Int.natAbs ((List.length (pV a0.2.2.1):Int))+(Int.natAbs (0:Int)+(a0.1.1.length+(a0.1.2.1.length+(a0.1.2.2.1.length+(a0.1.2.2.2.1.natAbs+(a0.1.2.2.2.2.1.natAbs+(a0.1.2.2.2.2.2.length+(a0.2.1.length+(a0.2.2.2.2.2.1.natAbs+(List.length ((pV a0.2.2.1):List Int)+(a0.2.2.2.1.length+(a0.2.2.2.2.1.length+(a0.2.2.1.length+2))))))))))))))) ([],(List.length (pV a0.2.2.1):Int),0,a0.1.1,a0.1.2.1,a0.1.2.2.1,a0.1.2.2.2.1,a0.1.2.2.2.2.1,a0.1.2.2.2.2.2,a0.2.1,a0.2.2.2.2.2.1,pV a0.2.2.1,a0.2.2.2.1,a0.2.2.2.2.1,a0.2.2.1,()) (gm)) fun v3=>
 some (v3.1,((v3.2.1,v3.2.2.1,v3.2.2.2.1,v3.2.2.2.2.1,v3.2.2.2.2.2.1,v3.2.2.2.2.2.2.1),v3.2.2.2.2.2.2.2.1,v3.2.2.2.2.2.2.2.2.2.2.2.1,v3.2.2.2.2.2.2.2.2.2.1,v3.2.2.2.2.2.2.2.2.2.2.1,v3.2.2.2.2.2.2.2.2.1,()),())
abbrev iF:Type:=Int×Int×(List UInt8)×(List UInt8)×(List UInt8)×Int×Int×(List ai)×(List UInt8)×(List UInt8)×(List UInt8)×Int×Int×(List ai)×(List (Option Nat))×(List aF)×Unit
abbrev oo:Type:=((aj×Int×Unit) ⊕ ((List UInt8)×(List UInt8)×(List UInt8)×Int×Int×(List ai)×(List UInt8)×(List UInt8)×(List UInt8)×Int×Int×(List ai)×(List aF)×Unit))
def om (x1:iF) (again:iF->Option oo):Option oo:=
 bif decide (x1.2.1<x1.1) then
  chk (decide (0<=x1.2.1)&&decide (x1.2.1<(x1.2.2.2.2.2.2.2.2.2.2.2.2.2.2.1.length:Int))) <|
  Option.bind (x1.2.2.2.2.2.2.2.2.2.2.2.2.2.2.1[x1.2.1.toNat]?) fun y2=>
  Option.bind (y2) fun h3=>
  Option.bind (x1.2.2.2.2.2.2.2.2.2.2.2.2.2.2.2.1[h3]?) fun y4=>
  bif decide (y4.2.2.2.1>0) then
   Option.bind (gT y2 x1.2.2.2.2.2.2.2.2.2.2.2.2.2.2.2.1) fun r5=>
   chk (decide (((x1.2.2.2.2.2.2.2.2.2.2.2.2.2.1.length)+1)*80<=140737488355328)&&decide ((x1.2.2.2.2.2.2.2.2.2.2.2.2.2.1.length)+1<=maxLen)) <|
   again (x1.1,w64 (x1.2.1+1),x1.2.2.1,x1.2.2.2.1,x1.2.2.2.2.1,x1.2.2.2.2.2.1,x1.2.2.2.2.2.2.1,x1.2.2.2.2.2.2.2.1,x1.2.2.2.2.2.2.2.2.1,x1.2.2.2.2.2.2.2.2.2.1,x1.2.2.2.2.2.2.2.2.2.2.1,x1.2.2.2.2.2.2.2.2.2.2.2.1,x1.2.2.2.2.2.2.2.2.2.2.2.2.1,x1.2.2.2.2.2.2.2.2.2.2.2.2.2.1++[(r5.1.1,r5.1.2.1,r5.1.2.2.2.1,r5.1.2.2.1,r5.1.2.2.2.2.1,r5.1.2.2.2.2.2.1)],x1.2.2.2.2.2.2.2.2.2.2.2.2.2.2.1,x1.2.2.2.2.2.2.2.2.2.2.2.2.2.2.2.1,())
  else
   again (x1.1,w64 (x1.2.1+1),x1.2.2.1,x1.2.2.2.1,x1.2.2.2.2.1,x1.2.2.2.2.2.1,x1.2.2.2.2.2.2.1,x1.2.2.2.2.2.2.2.1,x1.2.2.2.2.2.2.2.2.1,x1.2.2.2.2.2.2.2.2.2.1,x1.2.2.2.2.2.2.2.2.2.2.1,x1.2.2.2.2.2.2.2.2.2.2.2.1,x1.2.2.2.2.2.2.2.2.2.2.2.2.1,x1.2.2.2.2.2.2.2.2.2.2.2.2.2.1,x1.2.2.2.2.2.2.2.2.2.2.2.2.2.2.1,x1.2.2.2.2.2.2.2.2.2.2.2.2.2.2.2.1,())
 else
  some (Sum.inr (x1.2.2.1,x1.2.2.2.1,x1.2.2.2.2.1,x1.2.2.2.2.2.1,x1.2.2.2.2.2.2.1,x1.2.2.2.2.2.2.2.1,x1.2.2.2.2.2.2.2.2.1,x1.2.2.2.2.2.2.2.2.2.1,x1.2.2.2.2.2.2.2.2.2.2.1,x1.2.2.2.2.2.2.2.2.2.2.2.1,x1.2.2.2.2.2.2.2.2.2.2.2.2.1,x1.2.2.2.2.2.2.2.2.2.2.2.2.2.1,x1.2.2.2.2.2.2.2.2.2.2.2.2.2.2.2.1,()))
def s7 (a0:aj) (a1:List aa):Option (aj×Int×Unit):=
 O1 (wP a0 a1 3652059 []) (fun r1=>
  bif r1.2.1 != 0 then
   some (([],[],[],0,0,[]),r1.2.1,())
  else
   none) (
  Option.bind (Bv a0 a1 3652059 []) fun r2=>
  bif r2.2.1 != 0 then
   some (([],[],[],0,0,[]),r2.2.1,())
  else
   Option.bind (iL (r2.1.1,r2.1.2.1,r2.1.2.2.1,r2.1.2.2.2.1,r2.1.2.2.2.2.1,r2.1.2.2.2.2.2.1,())) fun r3=>
   aI (β:=(aj×Int×Unit)) (γ:=((List UInt8)×(List UInt8)×(List UInt8)×Int×Int×(List ai)×(List UInt8)×(List UInt8)×(List UInt8)×Int×Int×(List ai)×(List aF)×Unit)) (
    iter (X:=iF) (β:=oo) (Int.natAbs ((r3.1.length:Int))+(Int.natAbs (0:Int)+(List.length ([]:List UInt8)+(List.length ([]:List UInt8)+(List.length ([]:List UInt8)+(Int.natAbs (0:Int)+(Int.natAbs (0:Int)+(List.length ([]:List ai)+(a0.1.length+(a0.2.1.length+(a0.2.2.1.length+(a0.2.2.2.1.natAbs+(a0.2.2.2.2.1.natAbs+(List.length ([]:List ai)+(r3.1.length+(r2.2.2.1.length+2)))))))))))))))) ((r3.1.length:Int),0,[],[],[],0,0,[],a0.1,a0.2.1,a0.2.2.1,a0.2.2.2.1,a0.2.2.2.2.1,[],r3.1,r2.2.2.1,()) (om)) fun v9=>
   bif ((v9.2.2.2.2.2.2.2.2.2.2.2.1.length:Int))==0 then
    some (([],[],[],0,0,[]),9,())
   else
    some ((v9.2.2.2.2.2.2.1,v9.2.2.2.2.2.2.2.1,v9.2.2.2.2.2.2.2.2.1,v9.2.2.2.2.2.2.2.2.2.1,v9.2.2.2.2.2.2.2.2.2.2.1,v9.2.2.2.2.2.2.2.2.2.2.2.1),0,()))
end
end Go.Md
