/-
  The plain models of the functions that the law reaches, third part. No condition.
-/
import Derived.Test.YtfeonoiibclkiaaGreatDoorYn
import Derived.Test.YtfeonoiibclkiaaGreatDoorYa
set_option linter.all false
set_option linter.all false
namespace Go.Md
open Go.Dn
def fe (a b:List UInt8×List UInt8):Int:=bif Lib.compareBytes a.1 b.1==0 then Lib.compareBytes a.2 b.2 else Lib.compareBytes a.1 b.1
noncomputable section
abbrev eH:Ty:=(.st (.pair .str (.pair .str cL)))
abbrev bh:Type:=(List UInt8)×(List UInt8)×ak
def gP (a0:List (bA×an)) (a1:bA) (a2:ak):Option ((List (bA×an))×Unit):=
 bif !(Option.isSome (bV (k:=aI) (v:=aD) a0 a1)) then
  Option.bind (mB 0) fun r1=>
  Option.bind (fL a2 9) fun r2=>
  Option.bind (gu r1.1 r2.1) fun r3=>
  some (gU (k:=aI) (v:=aD) a0 a1 r3.1,())
 else
  Option.bind (fL a2 9) fun r4=>
  Option.bind (gu (Option.getD (α:=an) (bV (k:=aI) (v:=aD) a0 a1) (false,[])) r4.1) fun r5=>
  some (gU (k:=aI) (v:=aD) a0 a1 r5.1,())
abbrev ir:Type:=(List bh)×Int×Int×(List bA)×(List (bA×an))×Unit
abbrev iq:Type:=(((List bh)×Int×(List (bA×an))×Unit) ⊕ ((List bh)×(List (bA×an))×Unit))
def fJ (x1:ir) (again:ir→Option iq):Option iq:=
 bif decide (x1.2.2.1<x1.2.1) then
  chk (decide (0≤x1.2.2.1)&&decide (x1.2.2.1<(x1.2.2.2.1.length:Int))) <|
  Option.bind (x1.2.2.2.1[x1.2.2.1.toNat]?) fun y2=>
  Option.bind (tW (Option.getD (α:=an) (bV (k:=aI) (v:=aD) x1.2.2.2.2.1 y2) (false,[]))) fun r3=>
  bif r3.2.1 != 0 then
   some (Sum.inl ([],r3.2.1,x1.2.2.2.2.1,()))
  else
   bif r3.1.1 != 0 then
    chk (decide (((x1.1.length)+1)*48≤140737488355328)&&decide ((x1.1.length)+1≤maxLen)) <|
    again (x1.1++[(y2.1,y2.2,r3.1)],x1.2.1,w64 (x1.2.2.1+1),x1.2.2.2.1,x1.2.2.2.2.1,())
   else
    again (x1.1,x1.2.1,w64 (x1.2.2.1+1),x1.2.2.2.1,x1.2.2.2.2.1,())
 else
  some (Sum.inr (x1.1,x1.2.2.2.2.1,()))
def oN (a0:List (bA×an)):Option ((List bh)×Int×(List (bA×an))×Unit):=
 chk (we fe a0) <|
 bu (β:=((List bh)×Int×(List (bA×an))×Unit)) (γ:=((List bh)×(List (bA×an))×Unit)) (
  iter (X:=ir) (β:=iq) (List.length ([]:List bh)+(Int.natAbs ((List.length (jR fe a0):Int))+(Int.natAbs (0:Int)+(List.length ((jR fe a0):List bA)+(List.length a0+2))))) ([],(List.length (jR fe a0):Int),0,jR fe a0,a0,()) (fJ)) fun v4=>
 some (v4.1,0,v4.2.1,())
abbrev ij:Type:=(List UInt8)×(List aa)×Int×Int×(List aX)×Int×Int×(List UInt8)×(List UInt8)×Int×(List aa)×(List (bA×an))×Unit
abbrev kP:Type:=((((List bh)×Int×Unit) ⊕ ((List (bA×an))×Unit)) ⊕ ((List UInt8)×(List aa)×Int×Int×(List UInt8)×(List UInt8)×Int×(List aa)×(List (bA×an))×Unit))
def kO (x1:ij) (again:ij→Option kP):Option kP:=
 bif decide (x1.2.2.2.2.2.2.1<x1.2.2.2.2.2.1) then
  Option.bind (idx x1.2.2.2.2.1 x1.2.2.2.2.2.2.1) fun y2=>
  Option.bind (gP x1.2.2.2.2.2.2.2.2.2.2.2.1 (y2.1,y2.2.1) y2.2.2.2) fun r3=>
  again (x1.1,x1.2.1,x1.2.2.1,x1.2.2.2.1,x1.2.2.2.2.1,x1.2.2.2.2.2.1,w64 (x1.2.2.2.2.2.2.1+1),x1.2.2.2.2.2.2.2.1,x1.2.2.2.2.2.2.2.2.1,x1.2.2.2.2.2.2.2.2.2.1,x1.2.2.2.2.2.2.2.2.2.2.1,r3.1,())
 else
  some (Sum.inr (x1.1,x1.2.1,x1.2.2.1,x1.2.2.2.1,x1.2.2.2.2.2.2.2.1,x1.2.2.2.2.2.2.2.2.1,x1.2.2.2.2.2.2.2.2.2.1,x1.2.2.2.2.2.2.2.2.2.2.1,x1.2.2.2.2.2.2.2.2.2.2.2.1,()))
abbrev iS:Type:=(List UInt8)×(List aa)×Int×Int×(List UInt8)×(List UInt8)×Int×(List aa)×(List (bA×an))×Unit
abbrev l7:Type:=(((List bh)×Int×Unit) ⊕ ((List (bA×an))×Unit))
def l6 (x1:iS) (again:iS→Option l7):Option l7:=
 bif decide (x1.2.2.2.1<x1.2.2.1) then
  Option.bind (idx x1.2.1 x1.2.2.2.1) fun y2=>
  Option.bind (gp (x1.2.2.2.2.1,x1.2.2.2.2.2.1,x1.2.2.2.2.2.2.1,x1.2.2.2.2.2.2.2.1) x1.2.2.2.1 x1.1) fun r3=>
  bif !r3.1 then
   again (x1.1,x1.2.1,x1.2.2.1,w64 (x1.2.2.2.1+1),x1.2.2.2.2.1,x1.2.2.2.2.2.1,x1.2.2.2.2.2.2.1,x1.2.2.2.2.2.2.2.1,x1.2.2.2.2.2.2.2.2.1,())
  else
   bu (β:=(((List bh)×Int×Unit) ⊕ ((List (bA×an))×Unit))) (γ:=((List UInt8)×(List aa)×Int×Int×(List UInt8)×(List UInt8)×Int×(List aa)×(List (bA×an))×Unit)) (
    iter (X:=ij) (β:=kP) (x1.1.length+(x1.2.1.length+(x1.2.2.1.natAbs+(x1.2.2.2.1.natAbs+(y2.2.2.2.length+(Int.natAbs ((y2.2.2.2.length:Int))+(Int.natAbs (0:Int)+(x1.2.2.2.2.1.length+(x1.2.2.2.2.2.1.length+(x1.2.2.2.2.2.2.1.natAbs+(x1.2.2.2.2.2.2.2.1.length+(x1.2.2.2.2.2.2.2.2.1.length+2)))))))))))) (x1.1,x1.2.1,x1.2.2.1,x1.2.2.2.1,y2.2.2.2,(y2.2.2.2.length:Int),0,x1.2.2.2.2.1,x1.2.2.2.2.2.1,x1.2.2.2.2.2.2.1,x1.2.2.2.2.2.2.2.1,x1.2.2.2.2.2.2.2.2.1,()) (kO)) fun v4=>
   again (v4.1,v4.2.1,v4.2.2.1,w64 (v4.2.2.2.1+1),v4.2.2.2.2.1,v4.2.2.2.2.2.1,v4.2.2.2.2.2.2.1,v4.2.2.2.2.2.2.2.1,v4.2.2.2.2.2.2.2.2.1,())
 else
  some (Sum.inr (x1.2.2.2.2.2.2.2.2.1,()))
def jF (a0:aC) (a1:List UInt8):Option ((List bh)×Int×Unit):=
 Option.bind (cZ a0 a1 true) fun r1=>
 bif r1.1 != 0 then
  some ([],r1.1,())
 else
  bu (β:=((List bh)×Int×Unit)) (γ:=((List (bA×an))×Unit)) (
   iter (X:=iS) (β:=l7) (List.length a1+(a0.2.2.2.length+(Int.natAbs ((a0.2.2.2.length:Int))+(Int.natAbs (0:Int)+(a0.1.length+(a0.2.1.length+(a0.2.2.1.natAbs+(a0.2.2.2.length+(List.length ([]:List (bA×an))+2))))))))) (a1,a0.2.2.2,(a0.2.2.2.length:Int),0,a0.1,a0.2.1,a0.2.2.1,a0.2.2.2,[],()) (l6)) fun v9=>
  Option.bind (oN v9.1) fun r10=>
  some (r10.1,r10.2.1,())
end
end Go.Md
set_option linter.all false
namespace Go.Md
open Go.Dn
noncomputable section
abbrev dc:Type:=(List bh)×(List aa)×Int×Int×(List (List UInt8))×Int×Int×(List UInt8)×(List UInt8)×Int×(List aa)×Bool×(List Int)×(List UInt8)×(List UInt8)×Int×Int×(List aX)×Unit
abbrev dQ:Type:=(((Bool×Unit) ⊕ ((List bh)×Bool×(List Int)×Unit)) ⊕ ((List bh)×(List aa)×Int×Int×(List UInt8)×(List UInt8)×Int×(List aa)×Bool×(List Int)×Unit))
def dP (x1:dc) (again:dc→Option dQ):Option dQ:=
 bif decide (x1.2.2.2.2.2.2.1<x1.2.2.2.2.2.1) then
  Option.bind (idx x1.2.2.2.2.1 x1.2.2.2.2.2.2.1) fun y2=>
  Option.bind (mN (x1.2.2.2.2.2.2.2.1,x1.2.2.2.2.2.2.2.2.1,x1.2.2.2.2.2.2.2.2.2.1,x1.2.2.2.2.2.2.2.2.2.2.1) y2) fun r3=>
  bif r3.2.1 != 0 then
   yJ <|
    some (Sum.inl (false,()))
  else
   Option.bind (gy r3.1 x1.2.2.2.2.2.2.2.2.2.2.2.2.2.1) fun r4=>
   bif !r4.1 then
    yJ <|
     some (Sum.inl (false,()))
   else
    again (x1.1,x1.2.1,x1.2.2.1,x1.2.2.2.1,x1.2.2.2.2.1,x1.2.2.2.2.2.1,w64 (x1.2.2.2.2.2.2.1+1),x1.2.2.2.2.2.2.2.1,x1.2.2.2.2.2.2.2.2.1,x1.2.2.2.2.2.2.2.2.2.1,x1.2.2.2.2.2.2.2.2.2.2.1,x1.2.2.2.2.2.2.2.2.2.2.2.1,x1.2.2.2.2.2.2.2.2.2.2.2.2.1,x1.2.2.2.2.2.2.2.2.2.2.2.2.2.1,x1.2.2.2.2.2.2.2.2.2.2.2.2.2.2.1,x1.2.2.2.2.2.2.2.2.2.2.2.2.2.2.2.1,x1.2.2.2.2.2.2.2.2.2.2.2.2.2.2.2.2.1,x1.2.2.2.2.2.2.2.2.2.2.2.2.2.2.2.2.2.1,())
 else
  some (Sum.inr (x1.1,x1.2.1,x1.2.2.1,x1.2.2.2.1,x1.2.2.2.2.2.2.2.1,x1.2.2.2.2.2.2.2.2.1,x1.2.2.2.2.2.2.2.2.2.1,x1.2.2.2.2.2.2.2.2.2.2.1,x1.2.2.2.2.2.2.2.2.2.2.2.1,x1.2.2.2.2.2.2.2.2.2.2.2.2.1,()))
abbrev bZ:Type:=(List bh)×(List aa)×Int×Int×(List UInt8)×(List UInt8)×Int×(List aa)×Bool×(List Int)×Unit
abbrev dw:Type:=((Bool×Unit) ⊕ ((List bh)×Bool×(List Int)×Unit))
def dn (x1:bZ) (again:bZ→Option dw):Option dw:=
 bif decide (x1.2.2.2.1<x1.2.2.1) then
  Option.bind (idx x1.2.1 x1.2.2.2.1) fun y2=>
  Option.bind (jF (x1.2.2.2.2.1,x1.2.2.2.2.2.1,x1.2.2.2.2.2.2.1,x1.2.2.2.2.2.2.2.1) y2.1) fun r3=>
  bif r3.2.1==1 then
   Option.bind (uB) fun r4=>
   some (Sum.inl (r4.1,()))
  else
   bif r3.2.1 != 0 then
    some (Sum.inl (false,()))
   else
    bu (β:=((Bool×Unit) ⊕ ((List bh)×Bool×(List Int)×Unit))) (γ:=((List bh)×(List aa)×Int×Int×(List UInt8)×(List UInt8)×Int×(List aa)×Bool×(List Int)×(List UInt8)×(List UInt8)×Int×Int×(List aX)×Unit)) (
     bif y2.2.1==[] then
      Option.bind (uU r3.1) fun r5=>
      Option.bind (wm (x1.2.2.2.2.2.2.2.2.1,x1.2.2.2.2.2.2.2.2.2.1) r5.1) fun r6=>
      some (Sum.inr (x1.1,x1.2.1,x1.2.2.1,x1.2.2.2.1,x1.2.2.2.2.1,x1.2.2.2.2.2.1,x1.2.2.2.2.2.2.1,x1.2.2.2.2.2.2.2.1,r6.1.1,r6.1.2,y2.1,y2.2.1,y2.2.2.1.1,y2.2.2.1.2,y2.2.2.2,()))
     else
      some (Sum.inr (x1.1,x1.2.1,x1.2.2.1,x1.2.2.2.1,x1.2.2.2.2.1,x1.2.2.2.2.2.1,x1.2.2.2.2.2.2.1,x1.2.2.2.2.2.2.2.1,x1.2.2.2.2.2.2.2.2.1,x1.2.2.2.2.2.2.2.2.2.1,y2.1,y2.2.1,y2.2.2.1.1,y2.2.2.1.2,y2.2.2.2,()))) fun v7=>
    Option.bind (pV (v7.2.2.2.2.1,v7.2.2.2.2.2.1,v7.2.2.2.2.2.2.1,v7.2.2.2.2.2.2.2.1) v7.2.2.2.2.2.2.2.2.2.2.1) fun r8=>
    bif r8.2.1 != 0 then
     some (Sum.inl (false,()))
    else
     bif ((r8.1.length:Int))==0 then
      some (Sum.inl (false,()))
     else
      Option.bind (idx r8.1 (w64 (((r8.1.length:Int)) - 1))) fun y9=>
      bif !(y9==v7.2.2.2.2.2.2.2.2.2.2.1) then
       some (Sum.inl (false,()))
      else
       chk (decide (0≤(0:Int))&&decide ((0:Int)≤(w64 (((r8.1.length:Int)) - 1)))&&decide ((w64 (((r8.1.length:Int)) - 1))≤(r8.1.length:Int))) <|
       bu (β:=((Bool×Unit) ⊕ ((List bh)×Bool×(List Int)×Unit))) (γ:=((List bh)×(List aa)×Int×Int×(List UInt8)×(List UInt8)×Int×(List aa)×Bool×(List Int)×Unit)) (
        iter (X:=dc) (β:=dQ) (v7.1.length+(v7.2.1.length+(v7.2.2.1.natAbs+(v7.2.2.2.1.natAbs+(List.length (List.drop 0 (List.take (Int.toNat (w64 (((r8.1.length:Int)) - 1))) r8.1))+(Int.natAbs ((List.length (List.drop 0 (List.take (Int.toNat (w64 (((r8.1.length:Int)) - 1))) r8.1)):Int))+(Int.natAbs (0:Int)+(v7.2.2.2.2.1.length+(v7.2.2.2.2.2.1.length+(v7.2.2.2.2.2.2.1.natAbs+(v7.2.2.2.2.2.2.2.1.length+(v7.2.2.2.2.2.2.2.2.2.1.length+(v7.2.2.2.2.2.2.2.2.2.2.1.length+(v7.2.2.2.2.2.2.2.2.2.2.2.1.length+(v7.2.2.2.2.2.2.2.2.2.2.2.2.1.natAbs+(v7.2.2.2.2.2.2.2.2.2.2.2.2.2.1.natAbs+(v7.2.2.2.2.2.2.2.2.2.2.2.2.2.2.1.length+2))))))))))))))))) (v7.1,v7.2.1,v7.2.2.1,v7.2.2.2.1,List.drop 0 (List.take (Int.toNat (w64 (((r8.1.length:Int)) - 1))) r8.1),(List.length (List.drop 0 (List.take (Int.toNat (w64 (((r8.1.length:Int)) - 1))) r8.1)):Int),0,v7.2.2.2.2.1,v7.2.2.2.2.2.1,v7.2.2.2.2.2.2.1,v7.2.2.2.2.2.2.2.1,v7.2.2.2.2.2.2.2.2.1,v7.2.2.2.2.2.2.2.2.2.1,v7.2.2.2.2.2.2.2.2.2.2.1,v7.2.2.2.2.2.2.2.2.2.2.2.1,v7.2.2.2.2.2.2.2.2.2.2.2.2.1,v7.2.2.2.2.2.2.2.2.2.2.2.2.2.1,v7.2.2.2.2.2.2.2.2.2.2.2.2.2.2.1,()) (dP)) fun v10=>
       again (v10.1,v10.2.1,v10.2.2.1,w64 (v10.2.2.2.1+1),v10.2.2.2.2.1,v10.2.2.2.2.2.1,v10.2.2.2.2.2.2.1,v10.2.2.2.2.2.2.2.1,v10.2.2.2.2.2.2.2.2.1,v10.2.2.2.2.2.2.2.2.2.1,())
 else
  some (Sum.inr (x1.1,x1.2.2.2.2.2.2.2.2.1,x1.2.2.2.2.2.2.2.2.2.1,()))
def fB (a0:aC):Option (Bool×Unit):=
 Option.bind (jF a0 []) fun r1=>
 bif r1.2.1 != 0 then
  Option.bind (
   bif ((r1.1.length:Int))==0 then
    Option.bind (uB) fun r2=>
    some (r2.1,())
   else
    some (false,())) fun v3=>
  some (v3.1,())
 else
  bu (β:=(Bool×Unit)) (γ:=((List bh)×Bool×(List Int)×Unit)) (
   iter (X:=bZ) (β:=dw) (r1.1.length+(a0.2.2.2.length+(Int.natAbs ((a0.2.2.2.length:Int))+(Int.natAbs (0:Int)+(a0.1.length+(a0.2.1.length+(a0.2.2.1.natAbs+(a0.2.2.2.length+(List.length ([]:List Int)+2))))))))) (r1.1,a0.2.2.2,(a0.2.2.2.length:Int),0,a0.1,a0.2.1,a0.2.2.1,a0.2.2.2,false,[],()) (dn)) fun v18=>
  Option.bind (
   Option.bind (uU v18.1) fun r19=>
   Option.bind (Gy (v18.2.1,v18.2.2.1) r19.1) fun r20=>
   bif r20.1==0 then
    Option.bind (uB) fun r21=>
    some (r21.1,())
   else
    some (false,())) fun v22=>
  some (v22.1,())
end
end Go.Md
