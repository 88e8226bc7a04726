/-
  The plain models of the functions that the law reaches, third part. No condition.
-/
import Derived.Test.YtnamfglkolhhgacGreatDoorYn
import Derived.Test.YtnamfglkolhhgacGreatDoorYa
import Derived.Test.YtnamfglkolhhgacGreatDoorYd
set_option linter.all false
set_option linter.all false
namespace Go.Md
open Go.Dn
def dN (a b:List UInt8×List UInt8):Int:=bif Lib.compareBytes a.1 b.1==0 then Lib.compareBytes a.2 b.2 else Lib.compareBytes a.1 b.1
noncomputable section
abbrev gu:Ty:=(.st (.pair .str (.pair .str dS)))
abbrev bw:Type:=(List UInt8)×(List UInt8)×aj
def iU (a0:List (bB×au)) (a1:bB) (a2:aj):Option ((List (bB×au))×Unit):=
 bif !(Option.isSome (bW (k:=aF) (v:=aC) a0 a1)) then
  Option.bind (nE 0) fun r1=>
  Option.bind (dG a2 9) fun r2=>
  Option.bind (eW r1.1 r2.1) fun r3=>
  some (iY (k:=aF) (v:=aC) a0 a1 r3.1,())
 else
  Option.bind (dG a2 9) fun r4=>
  Option.bind (eW (Option.getD (α:=au) (bW (k:=aF) (v:=aC) a0 a1) (false,[])) r4.1) fun r5=>
  some (iY (k:=aF) (v:=aC) a0 a1 r5.1,())
abbrev jm:Type:=(List bw)×Int×Int×(List bB)×(List (bB×au))×Unit
abbrev jl:Type:=(((List bw)×Int×(List (bB×au))×Unit) ⊕ ((List bw)×(List (bB×au))×Unit))
def gJ (x1:jm) (again:jm→Option jl):Option jl:=
 bif decide (x1.2.2.1<x1.2.1) then
  chk (decide (0≤x1.2.2.1)&&decide (x1.2.2.1<(x1.2.2.2.1.length:Int))) <|
  Option.bind (x1.2.2.2.1[x1.2.2.1.toNat]?) fun y2=>
  Option.bind (uX (Option.getD (α:=au) (bW (k:=aF) (v:=aC) x1.2.2.2.2.1 y2) (false,[]))) fun r3=>
  bif r3.2.1 != 0 then
   some (Sum.inl ([],r3.2.1,x1.2.2.2.2.1,()))
  else
   bif r3.1.1 != 0 then
    chk (decide (((x1.1.length)+1)*48≤140737488355328)&&decide ((x1.1.length)+1≤maxLen)) <|
    again (x1.1++[(y2.1,y2.2,r3.1)],x1.2.1,w64 (x1.2.2.1+1),x1.2.2.2.1,x1.2.2.2.2.1,())
   else
    again (x1.1,x1.2.1,w64 (x1.2.2.1+1),x1.2.2.2.1,x1.2.2.2.2.1,())
 else
  some (Sum.inr (x1.1,x1.2.2.2.2.1,()))
def qc (a0:List (bB×au)):Option ((List bw)×Int×(List (bB×au))×Unit):=
 chk (xm dN a0) <|
 bu (β:=((List bw)×Int×(List (bB×au))×Unit)) (γ:=((List bw)×(List (bB×au))×Unit)) (
  iter (X:=jm) (β:=jl) (List.length ([]:List bw)+(Int.natAbs ((List.length (lu dN a0):Int))+(Int.natAbs (0:Int)+(List.length ((lu dN a0):List bB)+(List.length a0+2))))) ([],(List.length (lu dN a0):Int),0,lu dN a0,a0,()) (gJ)) fun v4=>
 some (v4.1,0,v4.2.1,())
abbrev jk:Type:=(List UInt8)×(List aa)×Int×Int×(List ah)×Int×Int×(List UInt8)×(List UInt8)×Int×(List aa)×(List (bB×au))×Unit
abbrev l9:Type:=((((List bw)×Int×Unit) ⊕ ((List (bB×au))×Unit)) ⊕ ((List UInt8)×(List aa)×Int×Int×(List UInt8)×(List UInt8)×Int×(List aa)×(List (bB×au))×Unit))
def l8 (x1:jk) (again:jk→Option l9):Option l9:=
 bif decide (x1.2.2.2.2.2.2.1<x1.2.2.2.2.2.1) then
  Option.bind (idx x1.2.2.2.2.1 x1.2.2.2.2.2.2.1) fun y2=>
  Option.bind (iU x1.2.2.2.2.2.2.2.2.2.2.2.1 (y2.1,y2.2.1) y2.2.2.2) fun r3=>
  again (x1.1,x1.2.1,x1.2.2.1,x1.2.2.2.1,x1.2.2.2.2.1,x1.2.2.2.2.2.1,w64 (x1.2.2.2.2.2.2.1+1),x1.2.2.2.2.2.2.2.1,x1.2.2.2.2.2.2.2.2.1,x1.2.2.2.2.2.2.2.2.2.1,x1.2.2.2.2.2.2.2.2.2.2.1,r3.1,())
 else
  some (Sum.inr (x1.1,x1.2.1,x1.2.2.1,x1.2.2.2.1,x1.2.2.2.2.2.2.2.1,x1.2.2.2.2.2.2.2.2.1,x1.2.2.2.2.2.2.2.2.2.1,x1.2.2.2.2.2.2.2.2.2.2.1,x1.2.2.2.2.2.2.2.2.2.2.2.1,()))
abbrev jU:Type:=(List UInt8)×(List aa)×Int×Int×(List UInt8)×(List UInt8)×Int×(List aa)×(List (bB×au))×Unit
abbrev ni:Type:=(((List bw)×Int×Unit) ⊕ ((List (bB×au))×Unit))
def nh (x1:jU) (again:jU→Option ni):Option ni:=
 bif decide (x1.2.2.2.1<x1.2.2.1) then
  Option.bind (idx x1.2.1 x1.2.2.2.1) fun y2=>
  Option.bind (iw (x1.2.2.2.2.1,x1.2.2.2.2.2.1,x1.2.2.2.2.2.2.1,x1.2.2.2.2.2.2.2.1) x1.2.2.2.1 x1.1) fun r3=>
  bif !r3.1 then
   again (x1.1,x1.2.1,x1.2.2.1,w64 (x1.2.2.2.1+1),x1.2.2.2.2.1,x1.2.2.2.2.2.1,x1.2.2.2.2.2.2.1,x1.2.2.2.2.2.2.2.1,x1.2.2.2.2.2.2.2.2.1,())
  else
   bu (β:=(((List bw)×Int×Unit) ⊕ ((List (bB×au))×Unit))) (γ:=((List UInt8)×(List aa)×Int×Int×(List UInt8)×(List UInt8)×Int×(List aa)×(List (bB×au))×Unit)) (
    iter (X:=jk) (β:=l9) (x1.1.length+(x1.2.1.length+(x1.2.2.1.natAbs+(x1.2.2.2.1.natAbs+(y2.2.2.2.length+(Int.natAbs ((y2.2.2.2.length:Int))+(Int.natAbs (0:Int)+(x1.2.2.2.2.1.length+(x1.2.2.2.2.2.1.length+(x1.2.2.2.2.2.2.1.natAbs+(x1.2.2.2.2.2.2.2.1.length+(x1.2.2.2.2.2.2.2.2.1.length+2)))))))))))) (x1.1,x1.2.1,x1.2.2.1,x1.2.2.2.1,y2.2.2.2,(y2.2.2.2.length:Int),0,x1.2.2.2.2.1,x1.2.2.2.2.2.1,x1.2.2.2.2.2.2.1,x1.2.2.2.2.2.2.2.1,x1.2.2.2.2.2.2.2.2.1,()) (l8)) fun v4=>
   again (v4.1,v4.2.1,v4.2.2.1,w64 (v4.2.2.2.1+1),v4.2.2.2.2.1,v4.2.2.2.2.2.1,v4.2.2.2.2.2.2.1,v4.2.2.2.2.2.2.2.1,v4.2.2.2.2.2.2.2.2.1,())
 else
  some (Sum.inr (x1.2.2.2.2.2.2.2.2.1,()))
def eP (a0:ak) (a1:List UInt8):Option ((List bw)×Int×Unit):=
 Option.bind (cR a0 a1 true) fun r1=>
 bif r1.1 != 0 then
  some ([],r1.1,())
 else
  bu (β:=((List bw)×Int×Unit)) (γ:=((List (bB×au))×Unit)) (
   iter (X:=jU) (β:=ni) (List.length a1+(a0.2.2.2.length+(Int.natAbs ((a0.2.2.2.length:Int))+(Int.natAbs (0:Int)+(a0.1.length+(a0.2.1.length+(a0.2.2.1.natAbs+(a0.2.2.2.length+(List.length ([]:List (bB×au))+2))))))))) (a1,a0.2.2.2,(a0.2.2.2.length:Int),0,a0.1,a0.2.1,a0.2.2.1,a0.2.2.2,[],()) (nh)) fun v9=>
  Option.bind (qc v9.1) fun r10=>
  some (r10.1,r10.2.1,())
end
end Go.Md
set_option linter.all false
namespace Go.Md
open Go.Dn
noncomputable section
end
end Go.Md
set_option linter.all false
namespace Go.Md
open Go.Dn
abbrev jG:List ah→Int→List ah→Option (List ah×Unit):=w8 64
abbrev eH:List aa→Int→Int→Option (List aa×Unit):=DR
noncomputable section
noncomputable def gY (a0:List aa):Option ((List aa)×Unit):=
 bif List.isEmpty a0 then
  both (
   some ([],())) (
   chk (decide ((0+(List.length a0))*72≤140737488355328)&&decide (0+(List.length a0)≤maxLen)) <|
   some (a0,()))
 else
  chk (decide ((0+(List.length a0))*72≤140737488355328)&&decide (0+(List.length a0)≤maxLen)) <|
  some (a0,())
noncomputable def gC (a0:List ah):Option ((List ah)×Unit):=
 bif List.isEmpty a0 then
  both (
   some ([],())) (
   chk (decide ((0+(List.length a0))*64≤140737488355328)&&decide (0+(List.length a0)≤maxLen)) <|
   some (a0,()))
 else
  chk (decide ((0+(List.length a0))*64≤140737488355328)&&decide (0+(List.length a0)≤maxLen)) <|
  some (a0,())
noncomputable def fM (a0:List ah):Option ((List ah)×Unit):=
 bif List.isEmpty a0 then
  both (
   some ([],())) (
   chk (decide ((0+(List.length a0))*64≤140737488355328)&&decide (0+(List.length a0)≤maxLen)) <|
   some (a0,()))
 else
  chk (decide ((0+(List.length a0))*64≤140737488355328)&&decide (0+(List.length a0)≤maxLen)) <|
  some (a0,())
abbrev fG:Type:=Int×Int×(List aa)×Unit
abbrev iD:Type:=(((List aa)×Unit) ⊕ ((List aa)×Unit))
noncomputable def iC (x1:fG) (again:fG→Option iD):Option iD:=
 bif decide (x1.2.1<x1.1) then
  chk (decide (0≤x1.2.1)&&decide (x1.2.1<(x1.2.2.1.length:Int))) <|
  Option.bind (x1.2.2.1[x1.2.1.toNat]?) fun y2=>
  Option.bind (gC y2.2.2.2) fun r3=>
  chk (decide (0≤x1.2.1)&&decide (x1.2.1<(x1.2.2.1.length:Int))) <|
  Option.bind (x1.2.2.1[x1.2.1.toNat]?) fun y4=>
  again (x1.1,w64 (x1.2.1+1),List.set x1.2.2.1 x1.2.1.toNat (y4.1,y4.2.1,y4.2.2.1,r3.1),())
 else
  some (Sum.inr (x1.2.2.1,()))
noncomputable def dF (a0:List aa):Option ((List aa)×Unit):=
 Option.bind (gY a0) fun r1=>
 bu (β:=((List aa)×Unit)) (γ:=((List aa)×Unit)) (
  iter (X:=fG) (β:=iD) (Int.natAbs ((r1.1.length:Int))+(Int.natAbs (0:Int)+(r1.1.length+2))) ((r1.1.length:Int),0,r1.1,()) (iC)) fun v6=>
 some (v6.1,())
noncomputable def eG (a0:ak) (a1:List UInt8) (a2:List UInt8):Option (ak×Int×Unit):=
 Option.bind (cR a0 a1 false) fun r1=>
 bif r1.1 != 0 then
  some (([],[],0,[]),r1.1,())
 else
  Option.bind (b9 a0 a1) fun r2=>
  bu (β:=(ak×Int×Unit)) (γ:=((List UInt8)×Int×(List UInt8)×(List UInt8)×Int×(List aa)×(List UInt8)×(List UInt8)×Int×(List aa)×Unit)) (
   bif !(a2==[]) then
    Option.bind (b9 a0 a2) fun r3=>
    bif !r3.2.1 then
     some (Sum.inl (([],[],0,[]),9,()))
    else
     bif r3.1==r2.1 then
      some (Sum.inl (([],[],0,[]),17,()))
     else
      Option.bind (lD a0 r3.1 a1) fun r4=>
      bif r4.1 then
       some (Sum.inl (([],[],0,[]),17,()))
      else
       some (Sum.inr (a2,r2.1,a0.1,a0.2.1,a0.2.2.1,a0.2.2.2,[],[],0,[],()))
   else
    some (Sum.inr (a2,r2.1,a0.1,a0.2.1,a0.2.2.1,a0.2.2.2,[],[],0,[],()))) fun v5=>
  Option.bind (dF v5.2.2.2.2.2.1) fun r6=>
  chk (decide (0≤v5.2.1)&&decide (v5.2.1<(r6.1.length:Int))) <|
  Option.bind (r6.1[v5.2.1.toNat]?) fun y7=>
  Option.bind (b6 (v5.2.2.1,v5.2.2.2.1,v5.2.2.2.2.1,List.set r6.1 v5.2.1.toNat (y7.1,v5.1,y7.2.2))) fun r8=>
  bif r8.1 != 0 then
   some (([],[],0,[]),r8.1,())
  else
   some ((v5.2.2.1,v5.2.2.2.1,v5.2.2.2.2.1,List.set r6.1 v5.2.1.toNat (y7.1,v5.1,y7.2.2)),0,())
abbrev dY:Type:=(List bw)×(List bw)×Int×Int×Unit
abbrev gp:Type:=((Bool×Unit) ⊕ Unit)
def gm (x1:dY) (again:dY→Option gp):Option gp:=
 bif decide (x1.2.2.2.1<x1.2.2.1) then
  Option.bind (idx x1.1 x1.2.2.2.1) fun y2=>
  Option.bind (idx x1.2.1 x1.2.2.2.1) fun y3=>
  bif !((y2.1==y3.1)&&((y2.2.1==y3.2.1)&&(((y2.2.2.1==y3.2.2.1)&&((y2.2.2.2==y3.2.2.2)&&true))&&true))) then
   some (Sum.inl (false,()))
  else
   again (x1.1,x1.2.1,x1.2.2.1,w64 (x1.2.2.2.1+1),())
 else
  some (Sum.inr ())
def cF (a0:List bw) (a1:List bw):Option (Bool×Unit):=
 bif ((List.length a0:Int)) != ((List.length a1:Int)) then
  some (false,())
 else
  bu (β:=(Bool×Unit)) (γ:=Unit) (
   iter (X:=dY) (β:=gp) (List.length a0+(List.length a1+(Int.natAbs ((List.length a0:Int))+(Int.natAbs (0:Int)+2)))) (a0,a1,(List.length a0:Int),0,()) (gm)) fun _=>
  some (true,())
abbrev dK:Type:=(List ah)×(List ah)×Int×Int×Unit
abbrev fk:Type:=((Bool×Unit) ⊕ Unit)
def fh (x1:dK) (again:dK→Option fk):Option fk:=
 bif decide (x1.2.2.2.1<x1.2.2.1) then
  Option.bind (idx x1.1 x1.2.2.2.1) fun y2=>
  Option.bind (idx x1.2.1 x1.2.2.2.1) fun y3=>
  bif !((y2.1==y3.1)&&((y2.2.1==y3.2.1)&&((y2.2.2.1==y3.2.2.1)&&(((y2.2.2.2.1==y3.2.2.2.1)&&((y2.2.2.2.2==y3.2.2.2.2)&&true))&&true)))) then
   some (Sum.inl (false,()))
  else
   again (x1.1,x1.2.1,x1.2.2.1,w64 (x1.2.2.2.1+1),())
 else
  some (Sum.inr ())
def gD (a0:List ah) (a1:List ah):Option (Bool×Unit):=
 bif ((List.length a0:Int)) != ((List.length a1:Int)) then
  some (false,())
 else
  bu (β:=(Bool×Unit)) (γ:=Unit) (
   iter (X:=dK) (β:=fk) (List.length a0+(List.length a1+(Int.natAbs ((List.length a0:Int))+(Int.natAbs (0:Int)+2)))) (a0,a1,(List.length a0:Int),0,()) (fh)) fun _=>
  some (true,())
abbrev iL:Type:=(List aa)×(List aa)×Int×Int×Unit
abbrev lH:Type:=((Bool×Unit) ⊕ Unit)
def lG (x1:iL) (again:iL→Option lH):Option lH:=
 bif decide (x1.2.2.2.1<x1.2.2.1) then
  Option.bind (idx x1.2.1 x1.2.2.2.1) fun y2=>
  Option.bind (idx x1.1 x1.2.2.2.1) fun y3=>
  bif !(y2.1==y3.1) then
   some (Sum.inl (false,()))
  else
   bif !(y2.2.1==y3.2.1) then
    some (Sum.inl (false,()))
   else
    bif !((y2.2.2.1.1==y3.2.2.1.1)&&((y2.2.2.1.2==y3.2.2.1.2)&&true)) then
     some (Sum.inl (false,()))
    else
     Option.bind (gD y2.2.2.2 y3.2.2.2) fun r4=>
     bif !r4.1 then
      some (Sum.inl (false,()))
     else
      again (x1.1,x1.2.1,x1.2.2.1,w64 (x1.2.2.2.1+1),())
 else
  some (Sum.inr ())
def oC (a0:List aa) (a1:List aa):Option (Bool×Unit):=
 bif ((List.length a0:Int)) != ((List.length a1:Int)) then
  some (false,())
 else
  bu (β:=(Bool×Unit)) (γ:=Unit) (
   iter (X:=iL) (β:=lH) (List.length a1+(List.length a0+(Int.natAbs ((List.length a0:Int))+(Int.natAbs (0:Int)+2)))) (a1,a0,(List.length a0:Int),0,()) (lG)) fun _=>
  some (true,())
def ur (a0:ak) (a1:ak):Option (Bool×Unit):=
 Option.bind (
  bif a0.1==a1.1 then
   bif a0.2.1==a1.2.1 then
    bif a0.2.2.1==a1.2.2.1 then
     Option.bind (oC a0.2.2.2 a1.2.2.2) fun r1=>
     some (r1.1,())
    else
     some (false,())
   else
    some (false,())
  else
   some (false,())) fun v2=>
 some (v2.1,())
abbrev bD:Type:=(List ah)×Unit×Int×Int×Int×(List UInt8)×(List UInt8)×(List UInt8)×Int×Int×Unit
abbrev cA:Type:=((Int×Bool×Unit) ⊕ ((List ah)×Unit×Int×Int×(List UInt8)×(List UInt8)×(List UInt8)×Int×Int×Unit))
def cz (x1:bD) (again:bD→Option cA):Option cA:=
 bif decide (x1.2.2.2.1<x1.2.2.2.2.1) then
  let n2:Int:=w64 (Int.fdiv (bK (w64 (x1.2.2.2.1+x1.2.2.2.2.1))) (2 ^ 1))
  Option.bind (idx x1.1 n2) fun y3=>
  Option.bind (dw y3 (x1.2.2.2.2.2.1,x1.2.2.2.2.2.2.1,x1.2.2.2.2.2.2.2.1,x1.2.2.2.2.2.2.2.2.1,x1.2.2.2.2.2.2.2.2.2.1)) fun r4=>
  bif decide (r4.1<0) then
   again (x1.1,x1.2.1,x1.2.2.1,w64 (n2+1),x1.2.2.2.2.1,x1.2.2.2.2.2.1,x1.2.2.2.2.2.2.1,x1.2.2.2.2.2.2.2.1,x1.2.2.2.2.2.2.2.2.1,x1.2.2.2.2.2.2.2.2.2.1,())
  else
   again (x1.1,x1.2.1,x1.2.2.1,x1.2.2.2.1,n2,x1.2.2.2.2.2.1,x1.2.2.2.2.2.2.1,x1.2.2.2.2.2.2.2.1,x1.2.2.2.2.2.2.2.2.1,x1.2.2.2.2.2.2.2.2.2.1,())
 else
  some (Sum.inr (x1.1,x1.2.1,x1.2.2.1,x1.2.2.2.1,x1.2.2.2.2.2.1,x1.2.2.2.2.2.2.1,x1.2.2.2.2.2.2.2.1,x1.2.2.2.2.2.2.2.2.1,x1.2.2.2.2.2.2.2.2.2.1,()))
def bU (a0:List ah) (a1:ah) (a2:Unit):Option (Int×Bool×Unit):=
 bu (β:=(Int×Bool×Unit)) (γ:=((List ah)×Unit×Int×Int×(List UInt8)×(List UInt8)×(List UInt8)×Int×Int×Unit)) (
  iter (X:=bD) (β:=cA) (List.length a0+(Int.natAbs ((List.length a0:Int))+(Int.natAbs (0:Int)+(Int.natAbs ((List.length a0:Int))+(a1.1.length+(a1.2.1.length+(a1.2.2.1.length+(a1.2.2.2.1.natAbs+(a1.2.2.2.2.natAbs+2))))))))) (a0,a2,(List.length a0:Int),0,(List.length a0:Int),a1.1,a1.2.1,a1.2.2.1,a1.2.2.2.1,a1.2.2.2.2,()) (cz)) fun v5=>
 bif decide (v5.2.2.2.1<v5.2.2.1) then
  Option.bind (idx v5.1 v5.2.2.2.1) fun y6=>
  Option.bind (dw y6 (v5.2.2.2.2.1,v5.2.2.2.2.2.1,v5.2.2.2.2.2.2.1,v5.2.2.2.2.2.2.2.1,v5.2.2.2.2.2.2.2.2.1)) fun r7=>
  some (v5.2.2.2.1,r7.1==0,())
 else
  some (v5.2.2.2.1,false,())
abbrev ja:Type:=(List ah)×(List ah)×Int×Int×Unit
abbrev iZ:Type:=(((List ah)×Unit) ⊕ ((List ah)×Unit))
noncomputable def fL (x1:ja) (again:ja→Option iZ):Option iZ:=
 bif decide (x1.2.2.2.1<x1.2.2.1) then
  Option.bind (idx x1.2.1 x1.2.2.2.1) fun y2=>
  Option.bind (bU x1.1 y2 ()) fun r3=>
  bif !r3.2.1 then
   Option.bind (jG x1.1 r3.1 [y2]) fun r4=>
   again (r4.1,x1.2.1,x1.2.2.1,w64 (x1.2.2.2.1+1),())
  else
   chk (decide (0≤r3.1)&&decide (r3.1<(x1.1.length:Int))) <|
   Option.bind (x1.1[r3.1.toNat]?) fun y5=>
   chk (decide (0≤r3.1)&&decide (r3.1<(x1.1.length:Int))) <|
   Option.bind (x1.1[r3.1.toNat]?) fun y6=>
   Option.bind (dG y6.2.2.2 (if y2.2.2.2.2>y5.2.2.2.2 then y2.2.2.2.2 else y5.2.2.2.2)) fun r7=>
   Option.bind (dG y2.2.2.2 (if y2.2.2.2.2>y5.2.2.2.2 then y2.2.2.2.2 else y5.2.2.2.2)) fun r8=>
   Option.bind (eW r7.1 r8.1) fun r9=>
   Option.bind (nU r9.1 (if y2.2.2.2.2>y5.2.2.2.2 then y2.2.2.2.2 else y5.2.2.2.2)) fun r10=>
   bif r10.2.1 != 0 then
    chk (decide (0≤r3.1)&&decide (r3.1<(x1.1.length:Int))) <|
    Option.bind (x1.1[r3.1.toNat]?) fun y11=>
    again (List.set x1.1 r3.1.toNat (y11.1,y11.2.1,y11.2.2.1,1000000000000001,if y2.2.2.2.2>y5.2.2.2.2 then y2.2.2.2.2 else y5.2.2.2.2),x1.2.1,x1.2.2.1,w64 (x1.2.2.2.1+1),())
   else
    chk (decide (0≤r3.1)&&decide (r3.1<(x1.1.length:Int))) <|
    Option.bind (x1.1[r3.1.toNat]?) fun y12=>
    again (List.set x1.1 r3.1.toNat (y12.1,y12.2.1,y12.2.2.1,r10.1),x1.2.1,x1.2.2.1,w64 (x1.2.2.2.1+1),())
 else
  some (Sum.inr (x1.1,()))
noncomputable def xb (a0:List ah) (a1:List ah):Option ((List ah)×Unit):=
 Option.bind (fM a0) fun r1=>
 bu (β:=((List ah)×Unit)) (γ:=((List ah)×Unit)) (
  iter (X:=ja) (β:=iZ) (r1.1.length+(List.length a1+(Int.natAbs ((List.length a1:Int))+(Int.natAbs (0:Int)+2)))) (r1.1,a1,(List.length a1:Int),0,()) (fL)) fun v14=>
 some (v14.1,())
abbrev gI:Type:=(List UInt8)×Int×Int×Int×(List UInt8)×(List UInt8)×Int×(List UInt8)×(List UInt8)×Int×(List aa)×(List UInt8)×(List UInt8)×Int×Int×(List ah)×(List aa)×Unit
abbrev gH:Type:=((ak×Int×Unit) ⊕ (Int×(List UInt8)×(List UInt8)×Int×(List UInt8)×(List UInt8)×Int×(List aa)×(List aa)×Unit))
noncomputable def fe (x1:gI) (again:gI→Option gH):Option gH:=
 bif decide (x1.2.2.2.1<x1.2.2.1) then
  chk (decide (0≤x1.2.2.2.1)&&decide (x1.2.2.2.1<(x1.2.2.2.2.2.2.2.2.2.2.2.2.2.2.2.2.1.length:Int))) <|
  Option.bind (x1.2.2.2.2.2.2.2.2.2.2.2.2.2.2.2.2.1[x1.2.2.2.1.toNat]?) fun y2=>
  bif y2.2.1==x1.1 then
   chk (decide (0≤x1.2.2.2.1)&&decide (x1.2.2.2.1<(x1.2.2.2.2.2.2.2.2.2.2.2.2.2.2.2.2.1.length:Int))) <|
   Option.bind (x1.2.2.2.2.2.2.2.2.2.2.2.2.2.2.2.2.1[x1.2.2.2.1.toNat]?) fun y3=>
   again (x1.1,x1.2.1,x1.2.2.1,w64 (x1.2.2.2.1+1),x1.2.2.2.2.1,x1.2.2.2.2.2.1,x1.2.2.2.2.2.2.1,x1.2.2.2.2.2.2.2.1,x1.2.2.2.2.2.2.2.2.1,x1.2.2.2.2.2.2.2.2.2.1,x1.2.2.2.2.2.2.2.2.2.2.1,x1.2.2.2.2.2.2.2.2.2.2.2.1,x1.2.2.2.2.2.2.2.2.2.2.2.2.1,x1.2.2.2.2.2.2.2.2.2.2.2.2.2.1,x1.2.2.2.2.2.2.2.2.2.2.2.2.2.2.1,x1.2.2.2.2.2.2.2.2.2.2.2.2.2.2.2.1,List.set x1.2.2.2.2.2.2.2.2.2.2.2.2.2.2.2.2.1 x1.2.2.2.1.toNat (y3.1,x1.2.2.2.2.2.2.2.2.2.2.2.2.1,y3.2.2),())
  else
   again (x1.1,x1.2.1,x1.2.2.1,w64 (x1.2.2.2.1+1),x1.2.2.2.2.1,x1.2.2.2.2.2.1,x1.2.2.2.2.2.2.1,x1.2.2.2.2.2.2.2.1,x1.2.2.2.2.2.2.2.2.1,x1.2.2.2.2.2.2.2.2.2.1,x1.2.2.2.2.2.2.2.2.2.2.1,x1.2.2.2.2.2.2.2.2.2.2.2.1,x1.2.2.2.2.2.2.2.2.2.2.2.2.1,x1.2.2.2.2.2.2.2.2.2.2.2.2.2.1,x1.2.2.2.2.2.2.2.2.2.2.2.2.2.2.1,x1.2.2.2.2.2.2.2.2.2.2.2.2.2.2.2.1,x1.2.2.2.2.2.2.2.2.2.2.2.2.2.2.2.2.1,())
 else
  some (Sum.inr (x1.2.1,x1.2.2.2.2.1,x1.2.2.2.2.2.1,x1.2.2.2.2.2.2.1,x1.2.2.2.2.2.2.2.1,x1.2.2.2.2.2.2.2.2.1,x1.2.2.2.2.2.2.2.2.2.1,x1.2.2.2.2.2.2.2.2.2.2.1,x1.2.2.2.2.2.2.2.2.2.2.2.2.2.2.2.2.1,()))
noncomputable def fK (a0:ak) (a1:List UInt8):Option (ak×Int×Unit):=
 Option.bind (cR a0 a1 false) fun r1=>
 bif r1.1 != 0 then
  some (([],[],0,[]),r1.1,())
 else
  Option.bind (b9 a0 a1) fun r2=>
  Option.bind (idx a0.2.2.2 r2.1) fun y3=>
  Option.bind (
   bif y3.2.1==[] then
    some (decide (((y3.2.2.2.length:Int))>0),())
   else
    some (false,())) fun v4=>
  bif v4.1 then
   some (([],[],0,[]),12,())
  else
   Option.bind (dF a0.2.2.2) fun r5=>
   Option.bind (b9 (a0.1,a0.2.1,a0.2.2.1,r5.1) y3.2.1) fun r6=>
   Option.bind (
    bif !(y3.2.1==[]) then
     some (r6.2.1,())
    else
     some (false,())) fun v7=>
   bu (β:=(ak×Int×Unit)) (γ:=((List UInt8)×Int×(List UInt8)×(List UInt8)×Int×(List UInt8)×(List UInt8)×Int×(List aa)×(List UInt8)×(List UInt8)×Int×Int×(List ah)×(List aa)×Unit)) (
    bif v7.1 then
     chk (decide (0≤r6.1)&&decide (r6.1<(r5.1.length:Int))) <|
     Option.bind (r5.1[r6.1.toNat]?) fun y8=>
     Option.bind (xb y8.2.2.2 y3.2.2.2) fun r9=>
     chk (decide (0≤r6.1)&&decide (r6.1<(r5.1.length:Int))) <|
     Option.bind (r5.1[r6.1.toNat]?) fun y10=>
     some (Sum.inr (a1,r2.1,a0.1,a0.2.1,a0.2.2.1,[],[],0,[],y3.1,y3.2.1,y3.2.2.1.1,y3.2.2.1.2,y3.2.2.2,List.set r5.1 r6.1.toNat (y10.1,y10.2.1,y10.2.2.1,r9.1),()))
    else
     some (Sum.inr (a1,r2.1,a0.1,a0.2.1,a0.2.2.1,[],[],0,[],y3.1,y3.2.1,y3.2.2.1.1,y3.2.2.1.2,y3.2.2.2,r5.1,()))) fun v11=>
   bu (β:=(ak×Int×Unit)) (γ:=(Int×(List UInt8)×(List UInt8)×Int×(List UInt8)×(List UInt8)×Int×(List aa)×(List aa)×Unit)) (
    iter (X:=gI) (β:=gH) (v11.1.length+(v11.2.1.natAbs+(Int.natAbs ((v11.2.2.2.2.2.2.2.2.2.2.2.2.2.2.1.length:Int))+(Int.natAbs (0:Int)+(v11.2.2.1.length+(v11.2.2.2.1.length+(v11.2.2.2.2.1.natAbs+(v11.2.2.2.2.2.1.length+(v11.2.2.2.2.2.2.1.length+(v11.2.2.2.2.2.2.2.1.natAbs+(v11.2.2.2.2.2.2.2.2.1.length+(v11.2.2.2.2.2.2.2.2.2.1.length+(v11.2.2.2.2.2.2.2.2.2.2.1.length+(v11.2.2.2.2.2.2.2.2.2.2.2.1.natAbs+(v11.2.2.2.2.2.2.2.2.2.2.2.2.1.natAbs+(v11.2.2.2.2.2.2.2.2.2.2.2.2.2.1.length+(v11.2.2.2.2.2.2.2.2.2.2.2.2.2.2.1.length+2))))))))))))))))) (v11.1,v11.2.1,(v11.2.2.2.2.2.2.2.2.2.2.2.2.2.2.1.length:Int),0,v11.2.2.1,v11.2.2.2.1,v11.2.2.2.2.1,v11.2.2.2.2.2.1,v11.2.2.2.2.2.2.1,v11.2.2.2.2.2.2.2.1,v11.2.2.2.2.2.2.2.2.1,v11.2.2.2.2.2.2.2.2.2.1,v11.2.2.2.2.2.2.2.2.2.2.1,v11.2.2.2.2.2.2.2.2.2.2.2.1,v11.2.2.2.2.2.2.2.2.2.2.2.2.1,v11.2.2.2.2.2.2.2.2.2.2.2.2.2.1,v11.2.2.2.2.2.2.2.2.2.2.2.2.2.2.1,()) (fe)) fun v15=>
   Option.bind (eH v15.2.2.2.2.2.2.2.2.1 v15.1 (w64 (v15.1+1))) fun r16=>
   Option.bind (b6 (v15.2.1,v15.2.2.1,v15.2.2.2.1,r16.1)) fun r17=>
   bif r17.1 != 0 then
    some (([],[],0,[]),r17.1,())
   else
    some ((v15.2.1,v15.2.2.1,v15.2.2.2.1,r16.1),0,())
noncomputable def fJ (a0:ak) (a1:List UInt8) (a2:List UInt8):Option (Bool×Unit):=
 Option.bind (eP a0 []) fun r1=>
 bif r1.2.1 != 0 then
  Option.bind (
   bif ((r1.1.length:Int))==0 then
    Option.bind (lz) fun r2=>
    some (r2.1,())
   else
    some (false,())) fun v3=>
  some (v3.1,())
 else
  Option.bind (eG a0 a1 a2) fun r4=>
  bu (β:=(Bool×Unit)) (γ:=((List UInt8)×(List bw)×(List UInt8)×(List UInt8)×Int×(List aa)×Unit)) (
   bif r4.2.1==0 then
    Option.bind (eP r4.1 []) fun r5=>
    Option.bind (nZ a0 a1) fun r6=>
    bif r5.2.1 != 0 then
     some (Sum.inl (false,()))
    else
     bif r6.2.1 != 0 then
      some (Sum.inl (false,()))
     else
      Option.bind (cF r1.1 r5.1) fun r7=>
      bif !r7.1 then
       some (Sum.inl (false,()))
      else
       bif ((r6.1.length:Int))==0 then
        some (Sum.inl (false,()))
       else
        bu (β:=((Bool×Unit) ⊕ ((List UInt8)×(List bw)×(List UInt8)×(List UInt8)×Int×(List aa)×Unit))) (γ:=((List UInt8)×(List bw)×(List UInt8)×(List UInt8)×(List UInt8)×Int×(List aa)×(List UInt8)×(List UInt8)×Int×(List aa)×Unit)) (
         bif decide (((r6.1.length:Int))>1) then
          Option.bind (idx r6.1 (w64 (((r6.1.length:Int)) - 2))) fun y8=>
          some (Sum.inr (a1,r1.1,y8,a0.1,a0.2.1,a0.2.2.1,a0.2.2.2,r4.1.1,r4.1.2.1,r4.1.2.2.1,r4.1.2.2.2,()))
         else
          some (Sum.inr (a1,r1.1,[],a0.1,a0.2.1,a0.2.2.1,a0.2.2.2,r4.1.1,r4.1.2.1,r4.1.2.2.1,r4.1.2.2.2,()))) fun v9=>
        Option.bind (eG (v9.2.2.2.2.2.2.2.1,v9.2.2.2.2.2.2.2.2.1,v9.2.2.2.2.2.2.2.2.2.1,v9.2.2.2.2.2.2.2.2.2.2.1) v9.1 v9.2.2.1) fun r10=>
        bif r10.2.1 != 0 then
         some (Sum.inl (false,()))
        else
         Option.bind (ur r10.1 (v9.2.2.2.1,v9.2.2.2.2.1,v9.2.2.2.2.2.1,v9.2.2.2.2.2.2.1)) fun r11=>
         bif !r11.1 then
          some (Sum.inl (false,()))
         else
          some (Sum.inr (v9.1,v9.2.1,v9.2.2.2.1,v9.2.2.2.2.1,v9.2.2.2.2.2.1,v9.2.2.2.2.2.2.1,()))
   else
    some (Sum.inr (a1,r1.1,a0.1,a0.2.1,a0.2.2.1,a0.2.2.2,()))) fun v12=>
  Option.bind (fK (v12.2.2.1,v12.2.2.2.1,v12.2.2.2.2.1,v12.2.2.2.2.2.1) v12.1) fun r13=>
  bif r13.2.1==0 then
   Option.bind (eP r13.1 []) fun r14=>
   bif r14.2.1 != 0 then
    some (false,())
   else
    Option.bind (cF v12.2.1 r14.1) fun r15=>
    bif !r15.1 then
     some (false,())
    else
     bif ((r13.1.2.2.2.length:Int)) != (w64 (((v12.2.2.2.2.2.1.length:Int)) - 1)) then
      some (false,())
     else
      Option.bind (lz) fun r16=>
      some (r16.1,())
  else
   Option.bind (lz) fun r17=>
   some (r17.1,())
end
end Go.Md
