/-
  The plain models of the functions that the law reaches, third part. No condition.
-/
import Derived.Test.YtfghdjdpccoleabGreatDoorYn
import Derived.Test.YtfghdjdpccoleabGreatDoorYa
import Derived.Test.YtfghdjdpccoleabGreatDoorYd
set_option linter.all false
namespace Go.Md
open Go.Dn
def fK (a b:Bys×Bys):Int:=bif Lib.compareBytes a.1 b.1==0 then Lib.compareBytes a.2 b.2 else Lib.compareBytes a.1 b.1
noncomputable section
abbrev ic:Ty:=(.st (.pair .str (.pair .str bN)))
abbrev bD:Type:=Bys×Bys×ax
def gP (a0:List (bz×aB)) (a1:bz) (a2:ax):Option ((List (bz×aB))×Unit):=
 bif !(Option.isSome (je (k:=aU) (v:=aR) a0 a1)) then
  (rz 0).bind fun r1=>
  (jk a2 9).bind fun r2=>
  (jG r1.1 r2.1).bind fun r3=>
  some (oc (k:=aU) (v:=aR) a0 a1 r3.1,())
 else
  (jk a2 9).bind fun r4=>
  (jG (Option.getD (α:=aB) (je (k:=aU) (v:=aR) a0 a1) (false,[])) r4.1).bind fun r5=>
  some (oc (k:=aU) (v:=aR) a0 a1 r5.1,())
abbrev nr:Type:=(List bD)×Int×Int×(List bz)×(List (bz×aB))×Unit
abbrev nk:Type:=(((List bD)×Int×(List (bz×aB))×Unit) ⊕ ((List bD)×(List (bz×aB))×Unit))
def kN (x1:nr) (again:nr->Option nk):Option nk:=
 match x1 with
 | (A,B,C,D,E,_)=>
 bif decide (C<B) then
  chk (decide (0<=C)&&decide (C<(D.length:Int))) <|
  (D[C.toNat]?).bind fun y2=>
  (ze (Option.getD (α:=aB) (je (k:=aU) (v:=aR) E y2) (false,[]))).bind fun r3=>
  bif r3.2.1 != 0 then
   some (.inl ([],r3.2.1,E,()))
  else
   bif r3.1.1 != 0 then
    chk (decide (((A.length)+1)*48<=140737488355328)&&decide ((A.length)+1<=maxLen)) <|
    again (A++[(y2.1,y2.2,r3.1)],B,w64 (C+1),D,E,())
   else
    again (A,B,w64 (C+1),D,E,())
 else
  some (.inr (A,E,()))
def yb (a0:List (bz×aB)):Option ((List bD)×Int×(List (bz×aB))×Unit):=
 chk (Fu fK a0) <|
 aJ (
  iter (X:=nr) (β:=nk) (List.length ([]:List bD)+(Int.natAbs ((List.length (qc fK a0):Int))+(Int.natAbs (0:Int)+(List.length ((qc fK a0):List bz)+(a0.length+2))))) ([],(List.length (qc fK a0):Int),0,qc fK a0,a0,()) (kN)) fun v4=>
 some (v4.1,0,v4.2.1,())
end
end Go.Md
set_option linter.all false
namespace Go.Md
open Go.Dn
noncomputable section
end
end Go.Md
set_option linter.all false
namespace Go.Md
open Go.Dn
noncomputable section
abbrev fW (α:Type):Type:=Int×Int×Unit×Int×Int×(List α)×Unit
abbrev fU (α:Type):Type:=((((List α)×Unit) ⊕ ((List α)×Unit)) ⊕ (Int×Int×Unit×Int×(List α)×Unit))
def fS {α:Type} (cmp:α->α->Option (Int×Unit)) (x1:(fW α)) (again:(fW α)->Option (fU α)):Option (fU α):=
 bif decide (x1.2.2.2.2.1>x1.1) then
  chk (decide (0<=x1.2.2.2.2.1)&&decide (x1.2.2.2.2.1<(x1.2.2.2.2.2.1.length:Int))) <|
  (x1.2.2.2.2.2.1[x1.2.2.2.2.1.toNat]?).bind fun y2=>
  chk (decide (0<=(w64 (x1.2.2.2.2.1 - 1)))&&decide ((w64 (x1.2.2.2.2.1 - 1))<(x1.2.2.2.2.2.1.length:Int))) <|
  (x1.2.2.2.2.2.1[(w64 (x1.2.2.2.2.1 - 1)).toNat]?).bind fun y3=>
  (cmp y2 y3).bind fun r4=>
  bif decide (r4.1<0) then
   chk (decide (0<=(w64 (x1.2.2.2.2.1 - 1)))&&decide ((w64 (x1.2.2.2.2.1 - 1))<(x1.2.2.2.2.2.1.length:Int))) <|
   (x1.2.2.2.2.2.1[(w64 (x1.2.2.2.2.1 - 1)).toNat]?).bind fun y5=>
   chk (decide (0<=x1.2.2.2.2.1)&&decide (x1.2.2.2.2.1<(x1.2.2.2.2.2.1.length:Int))) <|
   (x1.2.2.2.2.2.1[x1.2.2.2.2.1.toNat]?).bind fun y6=>
   chk (decide (0<=x1.2.2.2.2.1)&&decide (x1.2.2.2.2.1<(x1.2.2.2.2.2.1.length:Int))) <|
   (x1.2.2.2.2.2.1[x1.2.2.2.2.1.toNat]?).bind fun _=>
   chk (decide (0<=(w64 (x1.2.2.2.2.1 - 1)))&&decide ((w64 (x1.2.2.2.2.1 - 1))<(List.length (List.set x1.2.2.2.2.2.1 x1.2.2.2.2.1.toNat y5):Int))) <|
   ((List.set x1.2.2.2.2.2.1 x1.2.2.2.2.1.toNat y5)[(w64 (x1.2.2.2.2.1 - 1)).toNat]?).bind fun _=>
   again (x1.1,x1.2.1,x1.2.2.1,x1.2.2.2.1,w64 (x1.2.2.2.2.1 - 1),List.set (List.set x1.2.2.2.2.2.1 x1.2.2.2.2.1.toNat y5) (w64 (x1.2.2.2.2.1 - 1)).toNat y6,())
  else
   some (.inr (x1.1,x1.2.1,x1.2.2.1,x1.2.2.2.1,x1.2.2.2.2.2.1,()))
 else
  some (.inr (x1.1,x1.2.1,x1.2.2.1,x1.2.2.2.1,x1.2.2.2.2.2.1,()))
abbrev fV (α:Type):Type:=Int×Int×Unit×Int×(List α)×Unit
abbrev fT (α:Type):Type:=(((List α)×Unit) ⊕ ((List α)×Unit))
def dW {α:Type} (cmp:α->α->Option (Int×Unit)) (x1:(fV α)) (again:(fV α)->Option (fT α)):Option (fT α):=
 bif decide (x1.2.2.2.1<x1.2.1) then
  aJ (
   iter (X:=(fW α)) (β:=(fU α)) (x1.1.natAbs+(x1.2.1.natAbs+(x1.2.2.2.1.natAbs+(x1.2.2.2.1.natAbs+(x1.2.2.2.2.1.length+2))))) (x1.1,x1.2.1,x1.2.2.1,x1.2.2.2.1,x1.2.2.2.1,x1.2.2.2.2.1,()) ((fS cmp))) fun (A,B,C,D,E,_)=>
  again (A,B,C,w64 (D+1),E,())
 else
  some (.inr (x1.2.2.2.2.1,()))
def dD {α:Type} (cmp:α->α->Option (Int×Unit)) (a0:List α) (a1:Int) (a2:Int) (a3:Unit):Option ((List α)×Unit):=
 aJ (
  iter (X:=(fV α)) (β:=(fT α)) (a1.natAbs+(a2.natAbs+(Int.natAbs (w64 (a1+1))+(a0.length+2)))) (a1,a2,a3,w64 (a1+1),a0,()) ((dW cmp))) fun v11=>
 some (v11.1,())
abbrev iw (α:Type):Type:=Int×Int×Int×Int×(List α)×Unit
abbrev iu (α:Type):Type:=(((List α)×Unit) ⊕ ((List α)×Unit))
def ir {α:Type} (x1:(iw α)) (again:(iw α)->Option (iu α)):Option (iu α):=
 bif decide (x1.2.2.2.1<x1.2.2.1) then
  chk (decide (0<=(w64 (x1.2.1+x1.2.2.2.1)))&&decide ((w64 (x1.2.1+x1.2.2.2.1))<(x1.2.2.2.2.1.length:Int))) <|
  (x1.2.2.2.2.1[(w64 (x1.2.1+x1.2.2.2.1)).toNat]?).bind fun y2=>
  chk (decide (0<=(w64 (x1.1+x1.2.2.2.1)))&&decide ((w64 (x1.1+x1.2.2.2.1))<(x1.2.2.2.2.1.length:Int))) <|
  (x1.2.2.2.2.1[(w64 (x1.1+x1.2.2.2.1)).toNat]?).bind fun y3=>
  chk (decide (0<=(w64 (x1.1+x1.2.2.2.1)))&&decide ((w64 (x1.1+x1.2.2.2.1))<(x1.2.2.2.2.1.length:Int))) <|
  (x1.2.2.2.2.1[(w64 (x1.1+x1.2.2.2.1)).toNat]?).bind fun _=>
  chk (decide (0<=(w64 (x1.2.1+x1.2.2.2.1)))&&decide ((w64 (x1.2.1+x1.2.2.2.1))<(List.length (List.set x1.2.2.2.2.1 (w64 (x1.1+x1.2.2.2.1)).toNat y2):Int))) <|
  ((List.set x1.2.2.2.2.1 (w64 (x1.1+x1.2.2.2.1)).toNat y2)[(w64 (x1.2.1+x1.2.2.2.1)).toNat]?).bind fun _=>
  again (x1.1,x1.2.1,x1.2.2.1,w64 (x1.2.2.2.1+1),List.set (List.set x1.2.2.2.2.1 (w64 (x1.1+x1.2.2.2.1)).toNat y2) (w64 (x1.2.1+x1.2.2.2.1)).toNat y3,())
 else
  some (.inr (x1.2.2.2.2.1,()))
def dK {α:Type} (a0:List α) (a1:Int) (a2:Int) (a3:Int) (_a4:Unit):Option ((List α)×Unit):=
 aJ (
  iter (X:=(iw α)) (β:=(iu α)) (a1.natAbs+(a2.natAbs+(a3.natAbs+(Int.natAbs (0:Int)+(a0.length+2))))) (a1,a2,a3,0,a0,()) (ir)) fun v6=>
 some (v6.1,())
abbrev jP (α:Type):Type:=Int×Unit×Int×Int×(List α)×Unit
abbrev jO (α:Type):Type:=(((List α)×Unit) ⊕ (Int×Unit×Int×(List α)×Unit))
def jN {α:Type} (x1:(jP α)) (again:(jP α)->Option (jO α)):Option (jO α):=
 bif x1.2.2.1 != x1.2.2.2.1 then
  bif decide (x1.2.2.1>x1.2.2.2.1) then
   (dK x1.2.2.2.2.1 (w64 (x1.1 - x1.2.2.1)) x1.1 x1.2.2.2.1 x1.2.1).bind fun r2=>
   again (x1.1,x1.2.1,w64 (x1.2.2.1 - x1.2.2.2.1),x1.2.2.2.1,r2.1,())
  else
   (dK x1.2.2.2.2.1 (w64 (x1.1 - x1.2.2.1)) (w64 ((w64 (x1.1+x1.2.2.2.1)) - x1.2.2.1)) x1.2.2.1 x1.2.1).bind fun r3=>
   again (x1.1,x1.2.1,x1.2.2.1,w64 (x1.2.2.2.1 - x1.2.2.1),r3.1,())
 else
  some (.inr (x1.1,x1.2.1,x1.2.2.1,x1.2.2.2.2.1,()))
def ji {α:Type} (a0:List α) (a1:Int) (a2:Int) (a3:Int) (a4:Unit):Option ((List α)×Unit):=
 aJ (
  iter (X:=(jP α)) (β:=(jO α)) (a2.natAbs+(Int.natAbs (w64 (a2 - a1))+(Int.natAbs (w64 (a3 - a2))+(a0.length+2)))) (a2,a4,w64 (a2 - a1),w64 (a3 - a2),a0,()) (jN)) fun (A,B,C,D,_)=>
 (dK D (w64 (A - C)) A C B).bind fun r5=>
 some (r5.1,())
abbrev iT (α:Type):Type:=Int×Unit×Int×Int×(List α)×Unit
abbrev iR (α:Type):Type:=(((List α)×Unit) ⊕ (Int×Int×(List α)×Unit))
def fN {α:Type} (cmp:α->α->Option (Int×Unit)) (x1:(iT α)) (again:(iT α)->Option (iR α)):Option (iR α):=
 bif decide (x1.2.2.1<x1.2.2.2.1) then
  let n2:Int:=w64 (Int.fdiv (bS (w64 (x1.2.2.1+x1.2.2.2.1))) (2 ^ 1))
  chk (decide (0<=n2)&&decide (n2<(x1.2.2.2.2.1.length:Int))) <|
  (x1.2.2.2.2.1[n2.toNat]?).bind fun y3=>
  chk (decide (0<=x1.1)&&decide (x1.1<(x1.2.2.2.2.1.length:Int))) <|
  (x1.2.2.2.2.1[x1.1.toNat]?).bind fun y4=>
  (cmp y3 y4).bind fun r5=>
  bif decide (r5.1<0) then
   again (x1.1,x1.2.1,w64 (n2+1),x1.2.2.2.1,x1.2.2.2.2.1,())
  else
   again (x1.1,x1.2.1,x1.2.2.1,n2,x1.2.2.2.2.1,())
 else
  some (.inr (x1.1,x1.2.2.1,x1.2.2.2.2.1,()))
abbrev iU (α:Type):Type:=Int×Int×(List α)×Unit
abbrev iS (α:Type):Type:=(((List α)×Unit) ⊕ ((List α)×Unit))
def iQ {α:Type} (x1:(iU α)) (again:(iU α)->Option (iS α)):Option (iS α):=
 bif decide (x1.2.1<(w64 (x1.1 - 1))) then
  chk (decide (0<=(w64 (x1.2.1+1)))&&decide ((w64 (x1.2.1+1))<(x1.2.2.1.length:Int))) <|
  (x1.2.2.1[(w64 (x1.2.1+1)).toNat]?).bind fun y2=>
  chk (decide (0<=x1.2.1)&&decide (x1.2.1<(x1.2.2.1.length:Int))) <|
  (x1.2.2.1[x1.2.1.toNat]?).bind fun y3=>
  chk (decide (0<=x1.2.1)&&decide (x1.2.1<(x1.2.2.1.length:Int))) <|
  (x1.2.2.1[x1.2.1.toNat]?).bind fun _=>
  chk (decide (0<=(w64 (x1.2.1+1)))&&decide ((w64 (x1.2.1+1))<(List.length (List.set x1.2.2.1 x1.2.1.toNat y2):Int))) <|
  ((List.set x1.2.2.1 x1.2.1.toNat y2)[(w64 (x1.2.1+1)).toNat]?).bind fun _=>
  again (x1.1,w64 (x1.2.1+1),List.set (List.set x1.2.2.1 x1.2.1.toNat y2) (w64 (x1.2.1+1)).toNat y3,())
 else
  some (.inr (x1.2.2.1,()))
abbrev iD (α:Type):Type:=Int×Unit×Int×Int×(List α)×Unit
abbrev iA (α:Type):Type:=(((List α)×Unit) ⊕ (Int×Int×(List α)×Unit))
def fE {α:Type} (cmp:α->α->Option (Int×Unit)) (x1:(iD α)) (again:(iD α)->Option (iA α)):Option (iA α):=
 bif decide (x1.2.2.1<x1.2.2.2.1) then
  let n2:Int:=w64 (Int.fdiv (bS (w64 (x1.2.2.1+x1.2.2.2.1))) (2 ^ 1))
  chk (decide (0<=x1.1)&&decide (x1.1<(x1.2.2.2.2.1.length:Int))) <|
  (x1.2.2.2.2.1[x1.1.toNat]?).bind fun y3=>
  chk (decide (0<=n2)&&decide (n2<(x1.2.2.2.2.1.length:Int))) <|
  (x1.2.2.2.2.1[n2.toNat]?).bind fun y4=>
  (cmp y3 y4).bind fun r5=>
  bif !(decide (r5.1<0)) then
   again (x1.1,x1.2.1,w64 (n2+1),x1.2.2.2.1,x1.2.2.2.2.1,())
  else
   again (x1.1,x1.2.1,x1.2.2.1,n2,x1.2.2.2.2.1,())
 else
  some (.inr (x1.1,x1.2.2.1,x1.2.2.2.2.1,()))
abbrev iE (α:Type):Type:=Int×Int×(List α)×Unit
abbrev iB (α:Type):Type:=(((List α)×Unit) ⊕ ((List α)×Unit))
def iy {α:Type} (x1:(iE α)) (again:(iE α)->Option (iB α)):Option (iB α):=
 bif decide (x1.2.1>x1.1) then
  chk (decide (0<=(w64 (x1.2.1 - 1)))&&decide ((w64 (x1.2.1 - 1))<(x1.2.2.1.length:Int))) <|
  (x1.2.2.1[(w64 (x1.2.1 - 1)).toNat]?).bind fun y2=>
  chk (decide (0<=x1.2.1)&&decide (x1.2.1<(x1.2.2.1.length:Int))) <|
  (x1.2.2.1[x1.2.1.toNat]?).bind fun y3=>
  chk (decide (0<=x1.2.1)&&decide (x1.2.1<(x1.2.2.1.length:Int))) <|
  (x1.2.2.1[x1.2.1.toNat]?).bind fun _=>
  chk (decide (0<=(w64 (x1.2.1 - 1)))&&decide ((w64 (x1.2.1 - 1))<(List.length (List.set x1.2.2.1 x1.2.1.toNat y2):Int))) <|
  ((List.set x1.2.2.1 x1.2.1.toNat y2)[(w64 (x1.2.1 - 1)).toNat]?).bind fun _=>
  again (x1.1,w64 (x1.2.1 - 1),List.set (List.set x1.2.2.1 x1.2.1.toNat y2) (w64 (x1.2.1 - 1)).toNat y3,())
 else
  some (.inr (x1.2.2.1,()))
abbrev iF (α:Type):Type:=Int×Int×Int×Unit×Int×Int×Int×Int×Int×(List α)×Unit
abbrev iC (α:Type):Type:=(((List α)×Unit) ⊕ (Int×Int×Int×Unit×Int×Int×Int×(List α)×Unit))
def fF {α:Type} (cmp:α->α->Option (Int×Unit)) (x1:(iF α)) (again:(iF α)->Option (iC α)):Option (iC α):=
 bif decide (x1.2.2.2.2.2.2.1<x1.2.2.2.2.2.2.2.1) then
  let n2:Int:=w64 (Int.fdiv (bS (w64 (x1.2.2.2.2.2.2.1+x1.2.2.2.2.2.2.2.1))) (2 ^ 1))
  chk (decide (0<=(w64 (x1.2.2.2.2.2.2.2.2.1 - n2)))&&decide ((w64 (x1.2.2.2.2.2.2.2.2.1 - n2))<(x1.2.2.2.2.2.2.2.2.2.1.length:Int))) <|
  (x1.2.2.2.2.2.2.2.2.2.1[(w64 (x1.2.2.2.2.2.2.2.2.1 - n2)).toNat]?).bind fun y3=>
  chk (decide (0<=n2)&&decide (n2<(x1.2.2.2.2.2.2.2.2.2.1.length:Int))) <|
  (x1.2.2.2.2.2.2.2.2.2.1[n2.toNat]?).bind fun y4=>
  (cmp y3 y4).bind fun r5=>
  bif !(decide (r5.1<0)) then
   again (x1.1,x1.2.1,x1.2.2.1,x1.2.2.2.1,x1.2.2.2.2.1,x1.2.2.2.2.2.1,w64 (n2+1),x1.2.2.2.2.2.2.2.1,x1.2.2.2.2.2.2.2.2.1,x1.2.2.2.2.2.2.2.2.2.1,())
  else
   again (x1.1,x1.2.1,x1.2.2.1,x1.2.2.2.1,x1.2.2.2.2.1,x1.2.2.2.2.2.1,x1.2.2.2.2.2.2.1,n2,x1.2.2.2.2.2.2.2.2.1,x1.2.2.2.2.2.2.2.2.2.1,())
 else
  some (.inr (x1.1,x1.2.1,x1.2.2.1,x1.2.2.2.1,x1.2.2.2.2.1,x1.2.2.2.2.2.1,x1.2.2.2.2.2.2.1,x1.2.2.2.2.2.2.2.2.2.1,()))
def gu {α:Type} (cmp:α->α->Option (Int×Unit)) (self:((List α)×Int×Int×Int×Unit×Unit)->Option ((List α)×Unit)) (a0:List α) (a1:Int) (a2:Int) (a3:Int) (a4:Unit):Option ((List α)×Unit):=
 bif (w64 (a2 - a1))==1 then
  aJ (
   iter (X:=(iT α)) (β:=(iR α)) (a1.natAbs+(a2.natAbs+(a3.natAbs+(a0.length+2)))) (a1,a4,a2,a3,a0,()) ((fN cmp))) fun (A,B,C,_)=>
  aJ (
   iter (X:=(iU α)) (β:=(iS α)) (B.natAbs+(A.natAbs+(C.length+2))) (B,A,C,()) (iQ)) fun v12=>
  some (v12.1,())
 else
  bif (w64 (a3 - a2))==1 then
   aJ (
    iter (X:=(iD α)) (β:=(iA α)) (a2.natAbs+(a1.natAbs+(a2.natAbs+(a0.length+2)))) (a2,a4,a1,a2,a0,()) ((fE cmp))) fun (D,E,F,_)=>
   aJ (
    iter (X:=(iE α)) (β:=(iB α)) (E.natAbs+(D.natAbs+(F.length+2))) (E,D,F,()) (iy)) fun v24=>
   some (v24.1,())
  else
   let n25:Int:=w64 (Int.fdiv (bS (w64 (a1+a3))) (2 ^ 1))
   aJ (γ:=(Int×Int×Int×Unit×Int×Int×Int×Int×(List α)×Unit)) (
    bif decide (a2>n25) then
     some (.inr (a1,a2,a3,a4,n25,w64 (n25+a2),w64 ((w64 (n25+a2)) - a3),n25,a0,()))
    else
     some (.inr (a1,a2,a3,a4,n25,w64 (n25+a2),a1,a2,a0,()))) fun (G,H,I,J,K,L,M,N,O,_)=>
   aJ (
    iter (X:=(iF α)) (β:=(iC α)) (G.natAbs+(H.natAbs+(I.natAbs+(K.natAbs+(L.natAbs+(M.natAbs+(N.natAbs+(Int.natAbs (w64 (L - 1))+(O.length+2))))))))) (G,H,I,J,K,L,M,N,w64 (L - 1),O,()) ((fF cmp))) fun (P,Q,R,S,T,U,V,W,_)=>
   bif decide (V<Q) then
    aJ (γ:=(Int×Int×Unit×Int×Int×Int×(List α)×Unit)) (
     bif decide (Q<(w64 (U - V))) then
      (ji W V Q (w64 (U - V)) S).bind fun r33=>
      some (.inr (P,R,S,T,V,w64 (U - V),r33.1,()))
     else
      some (.inr (P,R,S,T,V,w64 (U - V),W,()))) fun (Y,Z,A0,B0,C0,D0,E0,_)=>
    bif decide (Y<C0) then
     aJ (γ:=(Int×Unit×Int×Int×(List α)×Unit)) (
      bif decide (C0<B0) then
       (self (E0,Y,C0,B0,A0,())).bind fun r35=>
       some (.inr (Z,A0,B0,D0,r35.1,()))
      else
       some (.inr (Z,A0,B0,D0,E0,()))) fun (F0,G0,H0,I0,J0,_)=>
     bif decide (H0<I0) then
      bif decide (I0<F0) then
       (self (J0,H0,I0,F0,G0,())).bind fun r37=>
       some (r37.1,())
      else
       some (J0,())
     else
      some (J0,())
    else
     aJ (γ:=(Int×Unit×Int×Int×(List α)×Unit)) (
      some (.inr (Z,A0,B0,D0,E0,()))) fun (K0,L0,M0,N0,O0,_)=>
     bif decide (M0<N0) then
      bif decide (N0<K0) then
       (self (O0,M0,N0,K0,L0,())).bind fun r39=>
       some (r39.1,())
      else
       some (O0,())
     else
      some (O0,())
   else
    aJ (γ:=(Int×Int×Unit×Int×Int×Int×(List α)×Unit)) (
     some (.inr (P,R,S,T,V,w64 (U - V),W,()))) fun (P0,Q0,R0,S0,T0,U0,V0,_)=>
    bif decide (P0<T0) then
     aJ (γ:=(Int×Unit×Int×Int×(List α)×Unit)) (
      bif decide (T0<S0) then
       (self (V0,P0,T0,S0,R0,())).bind fun r41=>
       some (.inr (Q0,R0,S0,U0,r41.1,()))
      else
       some (.inr (Q0,R0,S0,U0,V0,()))) fun (W0,X0,Y0,Z0,A1,_)=>
     bif decide (Y0<Z0) then
      bif decide (Z0<W0) then
       (self (A1,Y0,Z0,W0,X0,())).bind fun r43=>
       some (r43.1,())
      else
       some (A1,())
     else
      some (A1,())
    else
     aJ (γ:=(Int×Unit×Int×Int×(List α)×Unit)) (
      some (.inr (Q0,R0,S0,U0,V0,()))) fun (B1,C1,D1,E1,F1,_)=>
     bif decide (D1<E1) then
      bif decide (E1<B1) then
       (self (F1,D1,E1,B1,C1,())).bind fun r45=>
       some (r45.1,())
      else
       some (F1,())
     else
      some (F1,())
def gR {α:Type} (a0:List α) (a1:Int) (a2:Int) (a3:Int) (_a4:Unit):Nat:=a0.length+(a1.natAbs+(a2.natAbs+(a3.natAbs+2)))
def fD {α:Type} (cmp:α->α->Option (Int×Unit)) (a0:List α) (a1:Int) (a2:Int) (a3:Int) (a4:Unit):Option ((List α)×Unit):=
 nL (fun self x=>(gu cmp) self x.1 x.2.1 x.2.2.1 x.2.2.2.1 x.2.2.2.2.1) (gR a0 a1 a2 a3 a4) (a0,a1,a2,a3,a4,())
abbrev jW (α:Type):Type:=Int×Unit×Int×Int×Int×(List α)×Unit
abbrev jT (α:Type):Type:=(((List α)×Unit) ⊕ (Int×Unit×Int×Int×(List α)×Unit))
def jQ {α:Type} (cmp:α->α->Option (Int×Unit)) (x1:(jW α)) (again:(jW α)->Option (jT α)):Option (jT α):=
 bif decide (x1.2.2.2.2.1<=x1.1) then
  ((dD cmp) x1.2.2.2.2.2.1 x1.2.2.2.1 x1.2.2.2.2.1 x1.2.1).bind fun r2=>
  again (x1.1,x1.2.1,x1.2.2.1,x1.2.2.2.2.1,w64 (x1.2.2.2.2.1+x1.2.2.1),r2.1,())
 else
  some (.inr (x1.1,x1.2.1,x1.2.2.1,x1.2.2.2.1,x1.2.2.2.2.2.1,()))
abbrev jY (α:Type):Type:=Int×Unit×Int×Int×Int×(List α)×Unit
abbrev jV (α:Type):Type:=((((List α)×Unit) ⊕ ((List α)×Unit)) ⊕ (Int×Unit×Int×Int×(List α)×Unit))
def jS {α:Type} (cmp:α->α->Option (Int×Unit)) (x1:(jY α)) (again:(jY α)->Option (jV α)):Option (jV α):=
 bif decide (x1.2.2.2.2.1<=x1.1) then
  ((fD cmp) x1.2.2.2.2.2.1 x1.2.2.2.1 (w64 (x1.2.2.2.1+x1.2.2.1)) x1.2.2.2.2.1 x1.2.1).bind fun r2=>
  again (x1.1,x1.2.1,x1.2.2.1,x1.2.2.2.2.1,w64 (x1.2.2.2.2.1+(w64 (2*x1.2.2.1))),r2.1,())
 else
  some (.inr (x1.1,x1.2.1,x1.2.2.1,x1.2.2.2.1,x1.2.2.2.2.2.1,()))
abbrev jX (α:Type):Type:=Int×Unit×Int×(List α)×Unit
abbrev jU (α:Type):Type:=(((List α)×Unit) ⊕ ((List α)×Unit))
def jR {α:Type} (cmp:α->α->Option (Int×Unit)) (x1:(jX α)) (again:(jX α)->Option (jU α)):Option (jU α):=
 bif decide (x1.2.2.1<x1.1) then
  aJ (
   iter (X:=(jY α)) (β:=(jV α)) (x1.1.natAbs+(x1.2.2.1.natAbs+(Int.natAbs (0:Int)+(Int.natAbs (w64 (2*x1.2.2.1))+(x1.2.2.2.1.length+2))))) (x1.1,x1.2.1,x1.2.2.1,0,w64 (2*x1.2.2.1),x1.2.2.2.1,()) ((jS cmp))) fun (A,B,C,D,E,_)=>
  bif decide ((w64 (D+C))<A) then
   ((fD cmp) E D (w64 (D+C)) A B).bind fun r3=>
   again (A,B,w64 (C*2),r3.1,())
  else
   again (A,B,w64 (C*2),E,())
 else
  some (.inr (x1.2.2.2.1,()))
def mc {α:Type} (cmp:α->α->Option (Int×Unit)) (a0:List α) (a1:Int) (a2:Unit):Option ((List α)×Unit):=
 aJ (
  iter (X:=(jW α)) (β:=(jT α)) (a1.natAbs+(Int.natAbs (20:Int)+(Int.natAbs (0:Int)+(Int.natAbs (20:Int)+(a0.length+2))))) (a1,a2,20,0,20,a0,()) ((jQ cmp))) fun (A,B,C,D,E,_)=>
 ((dD cmp) E D A B).bind fun r4=>
 aJ (
  iter (X:=(jX α)) (β:=(jU α)) (A.natAbs+(C.natAbs+(r4.1.length+2))) (A,B,C,r4.1,()) ((jR cmp))) fun v10=>
 some (v10.1,())
def k8 {α:Type} (cmp:α->α->Option (Int×Unit)) (a0:List α) (a1:Unit):Option ((List α)×Unit):=
 ((mc cmp) a0 ((a0.length:Int)) a1).bind fun r1=>
 some (r1.1,())
end
end Go.Md
set_option linter.all false
namespace Go.Md
open Go.Dn
noncomputable section
abbrev an:Type:=Int×Bys×Bys×Bys×Bys×ax
abbrev aj:Type:=Bys×Bool×(List aa)×(List aa)
abbrev fO:Type:=aG×(List aj)
end
abbrev gK:List aa->Int->List aa->Option (List aa×Unit):=ny 64
abbrev dO:List ai->Int->List ai->Option (List ai×Unit):=ny 32
abbrev lS:List an->Int->List an->Option (List an×Unit):=ny 88
abbrev pH (l:List aa) (n:Int):Option (List aa×Unit):=N6 64 l n
def dU {α:Type} (eq:α->α->Bool):α->List α->List α
 | _,[]=>[]
 | x,y::r=>if eq y x=true then dU eq y r else y::dU eq y r
def fQ {α:Type} (eq:α->α->Bool):List α->List α
 | []=>[]
 | x::r=>x::dU eq x r
def cG (l:List aa) (_:Unit):Option (List aa×Unit):=some (fQ (fun a b=>((bE a b).map fun r=>r.1==0).getD false) l,())
noncomputable section
abbrev aq:Ty:=(.st (.pair tI (.pair .str (.pair .str (.pair .str (.pair .str bN))))))
abbrev aO:Ty:=(.st (.pair .str (.pair .bool (.pair (.slice ah) (.slice ah)))))
abbrev lT:Ty:=(.st (.pair bY (.slice aO)))
abbrev bR:Type:=(List aa)×Unit×Int×Int×Int×Bys×Bys×Bys×Int×Int×Unit
abbrev dH:Type:=((Int×Bool×Unit) ⊕ ((List aa)×Unit×Int×Int×Bys×Bys×Bys×Int×Int×Unit))
def dG (x1:bR) (again:bR->Option dH):Option dH:=
 match x1 with
 | (A,B,C,D,E,F,G,H,I,J,_)=>
 bif decide (D<E) then
  let n2:Int:=w64 (Int.fdiv (bS (w64 (D+E))) (2 ^ 1))
  (idx A n2).bind fun y3=>
  (bE y3 (F,G,H,I,J)).bind fun r4=>
  bif decide (r4.1<0) then
   again (A,B,C,w64 (n2+1),E,F,G,H,I,J,())
  else
   again (A,B,C,D,n2,F,G,H,I,J,())
 else
  some (.inr (A,B,C,D,F,G,H,I,J,()))
def cL (a0:List aa) (a1:aa) (a2:Unit):Option (Int×Bool×Unit):=
 aJ (
  iter (X:=bR) (β:=dH) (a0.length+(Int.natAbs ((a0.length:Int))+(Int.natAbs (0:Int)+(Int.natAbs ((a0.length:Int))+(a1.1.length+(a1.2.1.length+(a1.2.2.1.length+(a1.2.2.2.1.natAbs+(a1.2.2.2.2.natAbs+2))))))))) (a0,a2,(a0.length:Int),0,(a0.length:Int),a1.1,a1.2.1,a1.2.2.1,a1.2.2.2.1,a1.2.2.2.2,()) (dG)) fun (A,_,B,C,D,E,F,G,H,_)=>
 bif decide (C<B) then
  (idx A C).bind fun y6=>
  (bE y6 (D,E,F,G,H)).bind fun r7=>
  some (C,r7.1==0,())
 else
  some (C,false,())
def kO (a0:List aa) (a1:aa):Option (aB×Unit):=
 (cL a0 a1 ()).bind fun r1=>
 bif !r1.2.1 then
  (rz 0).bind fun r2=>
  some (r2.1,())
 else
  (idx a0 r1.1).bind fun y3=>
  (rK y3.2.2.2).bind fun r4=>
  some (r4.1,())
abbrev oW:Type:=Int×Int×Bys×Bool×(List aa)×(List aa)×(List (List aa))×Unit
abbrev oV:Type:=((Int×Unit) ⊕ (Bys×Bool×(List aa)×(List aa)×Unit))
def vF (x1:oW) (again:oW->Option oV):Option oV:=
 match x1 with
 | (A,B,C,D,E,F,G,_)=>
 bif decide (B<A) then
  chk (decide (0<=B)&&decide (B<(G.length:Int))) <|
  (G[B.toNat]?).bind fun y2=>
  (iq y2).bind fun r3=>
  bif r3.1 != 0 then
   some (.inl (r3.1,()))
  else
   again (A,w64 (B+1),C,D,E,F,G,())
 else
  some (.inr (C,D,E,F,()))
abbrev kI:Type:=(List aa)×Int×Int×Bys×Bool×(List aa)×(List aa)×Unit
abbrev nF:Type:=((Int×Unit) ⊕ Unit)
def nE (x1:kI) (again:kI->Option nF):Option nF:=
 match x1 with
 | (A,B,C,D,E,F,G,_)=>
 bif decide (C<B) then
  (idx A C).bind fun y2=>
  (rK y2.2.2.2).bind fun r3=>
  (kO F y2).bind fun r4=>
  (rH r3.1 r4.1).bind fun r5=>
  bif decide (r5.1>0) then
   some (.inl (12,()))
  else
   again (A,B,w64 (C+1),D,E,F,G,())
 else
  some (.inr ())
def tZ (a0:List aj) (a1:Int):Option (Int×Unit):=
 (idx a0 a1).bind fun y1=>
 (rZ y1.1).bind fun r2=>
 bif !r2.1 then
  some (3,())
 else
  (
   bif decide (a1>0) then
    Option.bind (idx a0 (w64 (a1 - 1))) fun y3=>
    some (Op.bytesLess y1.1 y3.1||y1.1==y3.1,())
   else
    some (false,())).bind fun v4=>
  bif v4.1 then
   some (8,())
  else
   (
    bif y1.2.1 then
     some (decide ((w64 (((y1.2.2.1.length:Int))+((y1.2.2.2.length:Int))))>0),())
    else
     some (false,())).bind fun v5=>
   bif v5.1 then
    some (3,())
   else
    aJ (
     iter (X:=oW) (β:=oV) (Int.natAbs ((List.length [y1.2.2.1,y1.2.2.2]:Int))+(Int.natAbs (0:Int)+(y1.1.length+(y1.2.2.1.length+(y1.2.2.2.length+(List.length ([y1.2.2.1,y1.2.2.2]:List (List aa))+2)))))) ((List.length [y1.2.2.1,y1.2.2.2]:Int),0,y1.1,y1.2.1,y1.2.2.1,y1.2.2.2,[y1.2.2.1,y1.2.2.2],()) (vF)) fun (A,B,C,D,_)=>
    aJ (
     iter (X:=kI) (β:=nF) (D.length+(Int.natAbs ((D.length:Int))+(Int.natAbs (0:Int)+(A.length+(C.length+(D.length+2)))))) (D,(D.length:Int),0,A,B,C,D,()) (nE)) fun _=>
    some (0,())
abbrev nB:Type:=(List aj)×Int×Int×Unit
abbrev tT:Type:=((Int×Unit) ⊕ Unit)
def nA (x1:nB) (again:nB->Option tT):Option tT:=
 bif decide (x1.2.2.1<x1.2.1) then
  (tZ x1.1 x1.2.2.1).bind fun r2=>
  bif r2.1 != 0 then
   some (.inl (r2.1,()))
  else
   again (x1.1,x1.2.1,w64 (x1.2.2.1+1),())
 else
  some (.inr ())
def kL (a0:List aj):Option (Int×Unit):=
 bif decide (((a0.length:Int))>500) then
  some (2,())
 else
  aJ (
   iter (X:=nB) (β:=tT) (a0.length+(Int.natAbs ((a0.length:Int))+(Int.natAbs (0:Int)+2))) (a0,(a0.length:Int),0,()) (nA)) fun _=>
  some (0,())
def om (a0:aG) (a1:List aj):Option ((aG×(List aj)×Unit)×Int×Unit):=
 (mu a0).bind fun r1=>
 bif r1.1 != 0 then
  none
 else
  (kL a1).bind fun r2=>
  bif r2.1 != 0 then
   none
  else
   some ((a0,a1,()),0,())
def gW (a0:aG) (a1:List aj):Option ((Option Nat)×Int×Unit):=
 (mu a0).bind fun r1=>
 bif r1.1 != 0 then
  some (none,r1.1,())
 else
  (kL a1).bind fun r2=>
  bif r2.1 != 0 then
   some (none,r2.1,())
  else
   none
def rY (a0:aj) (a1:Bys):Option (Int×Unit):=
 (strings_Compare a0.1 a1).bind fun r1=>
 some (r1.1,())
abbrev cw:Type:=(List aj)×Bys×Unit×Int×Int×Int×Unit
abbrev fA:Type:=((Int×Bool×Unit) ⊕ ((List aj)×Bys×Unit×Int×Int×Unit))
def fq (x1:cw) (again:cw->Option fA):Option fA:=
 match x1 with
 | (A,B,C,D,E,F,_)=>
 bif decide (E<F) then
  let n2:Int:=w64 (Int.fdiv (bS (w64 (E+F))) (2 ^ 1))
  (idx A n2).bind fun y3=>
  (rY y3 B).bind fun r4=>
  bif decide (r4.1<0) then
   again (A,B,C,D,w64 (n2+1),F,())
  else
   again (A,B,C,D,E,n2,())
 else
  some (.inr (A,B,C,D,E,()))
def cM (a0:List aj) (a1:Bys) (a2:Unit):Option (Int×Bool×Unit):=
 aJ (
  iter (X:=cw) (β:=fA) (a0.length+(a1.length+(Int.natAbs ((a0.length:Int))+(Int.natAbs (0:Int)+(Int.natAbs ((a0.length:Int))+2))))) (a0,a1,a2,(a0.length:Int),0,(a0.length:Int),()) (fq)) fun (A,B,_,C,D,_)=>
 bif decide (D<C) then
  (idx A D).bind fun y6=>
  (rY y6 B).bind fun r7=>
  some (D,r7.1==0,())
 else
  some (D,false,())
def iX (a0:fO) (a1:Bys):Option (aj×Bool×Unit):=
 (cM a0.2 a1 ()).bind fun r1=>
 bif !r1.2.1 then
  some (([],false,[],[]),false,())
 else
  (idx a0.2 r1.1).bind fun y2=>
  some (y2,true,())
def gO (a0:aG×(List aj)×Unit) (a1:Bys):Option (aj×Bool×(aG×(List aj)×Unit)×Unit):=
 (cM a0.2.1 a1 ()).bind fun r1=>
 bif !r1.2.1 then
  some (([],false,[],[]),false,(a0.1,a0.2.1,()),())
 else
  (idx a0.2.1 r1.1).bind fun y2=>
  some (y2,true,(a0.1,a0.2.1,()),())
def cr (self:(fO×Int×Unit)->Option (Bool×Unit)) (a0:fO) (a1:Int):Option (Bool×Unit):=
 (idx a0.1.2.2.2 a1).bind fun y1=>
 (iX a0 y1.1).bind fun r2=>
 bif r2.2.1 then
  some (true,())
 else
  (idx a0.1.2.2.2 a1).bind fun y3=>
  bif y3.2.1==[] then
   some (false,())
  else
   (kH a0.1 y3.2.1).bind fun r4=>
   (iX a0 y3.2.1).bind fun r5=>
   (self (a0,r4.1,())).bind fun r6=>
   bif r6.1 then
    bif !r5.2.1 then
     some (true,())
    else
     some (r5.1.2.1,())
   else
    some (false,())
def oo (a0:fO) (a1:Int):Nat:=a0.1.1.length+(a0.1.2.1.length+(a0.1.2.2.1.natAbs+(a0.1.2.2.2.length+(a0.2.length+(a1.natAbs+2)))))
def fk (a0:fO) (a1:Int):Option (Bool×Unit):=
 nL (fun self x=>cr self x.1 x.2.1) (oo a0 a1) (a0,a1,())
def Am (a0:Int) (a1:fO):Option (Bool×Unit):=
 (fk a1 a0).bind fun r1=>
 some (!r1.1,())
abbrev dJ:Type:=(List Int)×fO×Int×Int×Unit
abbrev dI:Type:=((Int×Unit) ⊕ Unit)
def cO (x1:dJ) (again:dJ->Option dI):Option dI:=
 match x1 with
 | (A,B,C,D,_)=>
 bif decide (D<C) then
  (idx A D).bind fun y2=>
  (Am y2 B).bind fun r3=>
  bif r3.1 then
   some (.inl (D,()))
  else
   again (A,B,C,w64 (D+1),())
 else
  some (.inr ())
def rm (a0:List Int) (a1:fO):Option (Int×Unit):=
 aJ (
  iter (X:=dJ) (β:=dI) (a0.length+(Int.natAbs ((a0.length:Int))+(Int.natAbs (0:Int)+2))) (a0,a1,(a0.length:Int),0,()) (cO)) fun _=>
 some ((-1),())
def gG (a0:List Int) (a1:fO):Option (Bool×Unit):=
 (rm a0 a1).bind fun r1=>
 some (decide (r1.1>=0),())
abbrev fC:Type:=(List (List aa))×Int×(List (List aa))×Int×Int×Unit
abbrev lR:Type:=(((List aa)×Unit) ⊕ ((List (List aa))×Int×Unit))
def fB (x1:fC) (again:fC->Option lR):Option lR:=
 match x1 with
 | (A,B,C,D,E,_)=>
 bif decide (E<D) then
  (idx C E).bind fun y2=>
  bif decide ((w64 (B+((y2.length:Int))))<0) then
   none
  else
   again (A,w64 (B+((y2.length:Int))),C,D,w64 (E+1),())
 else
  some (.inr (A,B,()))
abbrev fh:Type:=(List aa)×(List (List aa))×Int×Int×Unit
abbrev kW:Type:=(((List aa)×Unit) ⊕ ((List aa)×Unit))
def ff (x1:fh) (again:fh->Option kW):Option kW:=
 match x1 with
 | (A,B,C,D,_)=>
 bif decide (D<C) then
  (idx B D).bind fun y2=>
  chk (decide (((A.length)+(y2.length))*64<=140737488355328)&&decide ((A.length)+(y2.length)<=maxLen)) <|
  again (A++y2,B,C,w64 (D+1),())
 else
  some (.inr (A,()))
def jJ (a0:List (List aa)):Option ((List aa)×Unit):=
 aJ (
  iter (X:=fC) (β:=lR) (a0.length+(Int.natAbs (0:Int)+(a0.length+(Int.natAbs ((a0.length:Int))+(Int.natAbs (0:Int)+2))))) (a0,0,a0,(a0.length:Int),0,()) (fB)) fun (A,B,_)=>
 (pH [] B).bind fun r4=>
 aJ (
  iter (X:=fh) (β:=kW) (r4.1.length+(A.length+(Int.natAbs ((A.length:Int))+(Int.natAbs (0:Int)+2)))) (r4.1,A,(A.length:Int),0,()) (ff)) fun v7=>
 some (v7.1,())
abbrev uZ:= @dD aa bE
abbrev yy:= @dK aa
abbrev Aq:= @ji aa
abbrev eP:= @gu aa bE
abbrev u5:= @gR aa
abbrev yJ:= @fD aa bE
abbrev Ar:= @mc aa bE
abbrev jh:= @k8 aa bE
def u7 (a0:aB):Option (aB×Unit):=
 (iG false a0.2).bind fun r1=>
 some (r1.1,())
def kM (a0:Int) (a1:Bys) (a2:aa) (a3:aB):Option (an×Int×Unit):=
 (ze a3).bind fun r1=>
 some ((a0,a1,a2.1,a2.2.1,a2.2.2.1,r1.1),r1.2.1,())
abbrev tY:Type:=(List an)×Int×Int×Bys×Bys×Int×Int×(List aa)×Bys×Bool×(List aa)×(List aa)×(List aa)×Unit
abbrev tX:Type:=(((List an)×Int×Unit) ⊕ ((List an)×Unit))
def oq (x1:tY) (again:tY->Option tX):Option tX:=
 match x1 with
 | (A,B,C,D,E,F,G,H,I,J,K,L,M,_)=>
 bif decide (C<B) then
  chk (decide (0<=C)&&decide (C<(M.length:Int))) <|
  (M[C.toNat]?).bind fun y2=>
  (kO K y2).bind fun r3=>
  (kO H y2).bind fun r4=>
  (nV r3.1 r4.1).bind fun r5=>
  (jH r5.1).bind fun r6=>
  bif r6.1==0 then
   again (A,B,w64 (C+1),D,E,F,G,H,I,J,K,L,M,())
  else
   aJ (γ:=((List an)×Int×Int×Int×Bys×Bys×Int×Int×(List aa)×Bys×Bool×(List aa)×(List aa)×Bys×Bys×Bys×Int×Int×Bool×(List Int)×(List aa)×Unit)) (
    bif r6.1==(-1) then
     some (.inr (A,3,B,C,D,E,F,G,H,I,J,K,L,y2.1,y2.2.1,y2.2.2.1,y2.2.2.2.1,y2.2.2.2.2,r5.1.1,r5.1.2,M,()))
    else
     some (.inr (A,4,B,C,D,E,F,G,H,I,J,K,L,y2.1,y2.2.1,y2.2.2.1,y2.2.2.2.1,y2.2.2.2.2,r5.1.1,r5.1.2,M,()))) fun (N,O,P,Q,R,S,T,U,V,W,X,Y,Z,A0,B0,C0,D0,E0,F0,G0,H0,_)=>
   (u7 (F0,G0)).bind fun r8=>
   (kM O W (A0,B0,C0,D0,E0) r8.1).bind fun r9=>
   bif r9.2.1 != 0 then
    some (.inl ([],r9.2.1,()))
   else
    chk (decide (((N.length)+1)*88<=140737488355328)&&decide ((N.length)+1<=maxLen)) <|
    again (N++[r9.1],P,w64 (Q+1),R,S,T,U,V,W,X,Y,Z,H0,())
 else
  some (.inr (A,()))
def zG (a0:ak) (a1:aj):Option ((List an)×Int×Unit):=
 (jJ [a0.2.2.2,a1.2.2.1]).bind fun r1=>
 (jh r1.1 ()).bind fun r2=>
 (cG r2.1 ()).bind fun r3=>
 aJ (
  iter (X:=tY) (β:=tX) (List.length ([]:List an)+(Int.natAbs ((r3.1.length:Int))+(Int.natAbs (0:Int)+(a0.1.length+(a0.2.1.length+(a0.2.2.1.1.natAbs+(a0.2.2.1.2.natAbs+(a0.2.2.2.length+(a1.1.length+(a1.2.2.1.length+(a1.2.2.2.length+(r3.1.length+2)))))))))))) ([],(r3.1.length:Int),0,a0.1,a0.2.1,a0.2.2.1.1,a0.2.2.1.2,a0.2.2.2,a1.1,a1.2.1,a1.2.2.1,a1.2.2.2,r3.1,()) (oq)) fun v13=>
 some (v13.1,0,())
abbrev eH:Type:=(List an)×(List aa)×Int×Int×Bys×Bool×(List aa)×(List aa)×Bys×Bys×Int×(List ak)×(List aj)×Unit
abbrev gp:Type:=(((List an)×Int×(aG×(List aj)×Unit)×Unit) ⊕ ((List an)×Bys×Bys×Int×(List ak)×(List aj)×Unit))
def gm (x1:eH) (again:eH->Option gp):Option gp:=
 match x1 with
 | (A,B,C,D,E,F,G,H,I,J,K,L,M,_)=>
 bif decide (D<C) then
  (idx B D).bind fun y2=>
  (rK y2.2.2.2).bind fun r3=>
  (kM 5 E y2 r3.1).bind fun r4=>
  bif r4.2.1 != 0 then
   some (.inl ([],r4.2.1,((I,J,K,L),M,()),()))
  else
   chk (decide (((A.length)+1)*88<=140737488355328)&&decide ((A.length)+1<=maxLen)) <|
   again (A++[r4.1],B,C,w64 (D+1),E,F,G,H,I,J,K,L,M,())
 else
  some (.inr (A,I,J,K,L,M,()))
def jf (a0:aG×(List aj)×Unit) (a1:aj):Option ((List an)×Int×(aG×(List aj)×Unit)×Unit):=
 (kH a0.1 a1.1).bind fun r1=>
 aJ (γ:=((List an)×Bys×Bool×(List aa)×(List aa)×Bys×Bys×Int×(List ak)×(List aj)×Unit)) (
  bif !r1.2.1 then
   some (.inr ([(2,a1.1,[],[],[],0,0)],a1.1,a1.2.1,a1.2.2.1,a1.2.2.2,a0.1.1,a0.1.2.1,a0.1.2.2.1,a0.1.2.2.2,a0.2.1,()))
  else
   bif !a1.2.1 then
    (idx a0.1.2.2.2 r1.1).bind fun y2=>
    (zG y2 a1).bind fun r3=>
    bif r3.2.1 != 0 then
     some (.inl ([],r3.2.1,(a0.1,a0.2.1,()),()))
    else
     some (.inr (r3.1,a1.1,a1.2.1,a1.2.2.1,a1.2.2.2,a0.1.1,a0.1.2.1,a0.1.2.2.1,a0.1.2.2.2,a0.2.1,()))
   else
    some (.inr ([],a1.1,a1.2.1,a1.2.2.1,a1.2.2.2,a0.1.1,a0.1.2.1,a0.1.2.2.1,a0.1.2.2.2,a0.2.1,()))) fun (A,B,C,D,E,F,G,H,I,J,_)=>
 aJ (
  iter (X:=eH) (β:=gp) (A.length+(E.length+(Int.natAbs ((E.length:Int))+(Int.natAbs (0:Int)+(B.length+(D.length+(E.length+(F.length+(G.length+(H.natAbs+(I.length+(J.length+2)))))))))))) (A,E,(E.length:Int),0,B,C,D,E,F,G,H,I,J,()) (gm)) fun (K,L,M,N,O,P,_)=>
 some (K,0,((L,M,N,O),P,()),())
def cmp_isNaN_int (a0:Int):Option (Bool×Unit):=
 some (a0 != a0,())
def vU (a0:Int) (a1:Int):Option (Int×Unit):=
 (cmp_isNaN_int a0).bind fun r1=>
 (cmp_isNaN_int a1).bind fun r2=>
 bif r1.1 then
  bif r2.1 then
   some (0,())
  else
   some ((-1),())
 else
  bif r2.1 then
   some (1,())
  else
   bif decide (a0<a1) then
    some ((-1),())
   else
    bif decide (a0>a1) then
     some (1,())
    else
     some (0,())
def fR (a0:an) (a1:an):Option (Int×Unit):=
 (strings_Compare a0.2.1 a1.2.1).bind fun r1=>
 (strings_Compare a0.2.2.1 a1.2.2.1).bind fun r2=>
 (strings_Compare a0.2.2.2.1 a1.2.2.2.1).bind fun r3=>
 (strings_Compare a0.2.2.2.2.1 a1.2.2.2.2.1).bind fun r4=>
 (vU a0.1 a1.1).bind fun r5=>
 (Bc [r1.1,r2.1,r3.1,r4.1,r5.1]).bind fun r6=>
 some (r6.1,())
abbrev sk:= @dD an fR
abbrev vI:= @dK an
abbrev yw:= @ji an
abbrev dR:= @gu an fR
abbrev sr:= @gR an
abbrev wM:= @fD an fR
abbrev yx:= @mc an fR
abbrev gX:= @k8 an fR
abbrev mw:Type:=(List aj)×(List an)×(List ak)×Int×Int×Bys×Bys×Int×(List ak)×Bys×Bys×Int×(List ak)×(List aj)×Unit
abbrev qi:Type:=(((List an)×Int×Unit) ⊕ ((List aj)×(List an)×Bys×Bys×Int×(List ak)×(List aj)×Unit))
def qh (x1:mw) (again:mw->Option qi):Option qi:=
 match x1 with
 | (A,B,C,D,E,F,G,H,I,J,K,L,M,N,_)=>
 bif decide (E<D) then
  (idx C E).bind fun y2=>
  (kT (F,G,H,I) E).bind fun r3=>
  (fk ((J,K,L,M),N) E).bind fun r4=>
  bif !r4.1 then
   (gG r3.1 ((J,K,L,M),N)).bind fun r5=>
   bif !r5.1 then
    chk (decide (((B.length)+1)*88<=140737488355328)&&decide ((B.length)+1<=maxLen)) <|
    again (A,B++[(1,y2.1,[],[],[],0,0)],C,D,w64 (E+1),F,G,H,I,J,K,L,M,N,())
   else
    again (A,B,C,D,w64 (E+1),F,G,H,I,J,K,L,M,N,())
  else
   again (A,B,C,D,w64 (E+1),F,G,H,I,J,K,L,M,N,())
 else
  some (.inr (A,B,J,K,L,M,N,()))
abbrev lB:Type:=(List an)×(List aj)×Int×Int×Bys×Bys×Int×(List ak)×(List aj)×Unit
abbrev oJ:Type:=(((List an)×Int×Unit) ⊕ ((List an)×Unit))
def oI (x1:lB) (again:lB->Option oJ):Option oJ:=
 match x1 with
 | (A,B,C,D,E,F,G,H,I,_)=>
 bif decide (D<C) then
  (idx B D).bind fun y2=>
  (jf ((E,F,G,H),I,()) y2).bind fun r3=>
  bif r3.2.1 != 0 then
   some (.inl ([],r3.2.1,()))
  else
   chk (decide (((A.length)+(r3.1.length))*88<=140737488355328)&&decide ((A.length)+(r3.1.length)<=maxLen)) <|
   again (A++r3.1,B,C,w64 (D+1),r3.2.2.1.1.1,r3.2.2.1.1.2.1,r3.2.2.1.1.2.2.1,r3.2.2.1.1.2.2.2,r3.2.2.1.2.1,())
 else
  some (.inr (A,()))
def ya (a0:aG) (a1:List aj):Option ((List an)×Int×Unit):=
 R8 (gW a0 a1) (fun r1=>
  bif r1.2.1 != 0 then
   some ([],r1.2.1,())
  else
   none) (
  (om a0 a1).bind fun r10=>
  bif r10.2.1 != 0 then
   some ([],r10.2.1,())
  else
   aJ (
    iter (X:=mw) (β:=qi) (a1.length+(List.length ([]:List an)+(a0.2.2.2.length+(Int.natAbs ((a0.2.2.2.length:Int))+(Int.natAbs (0:Int)+(a0.1.length+(a0.2.1.length+(a0.2.2.1.natAbs+(a0.2.2.2.length+(r10.1.1.1.length+(r10.1.1.2.1.length+(r10.1.1.2.2.1.natAbs+(r10.1.1.2.2.2.length+(r10.1.2.1.length+2)))))))))))))) (a1,[],a0.2.2.2,(a0.2.2.2.length:Int),0,a0.1,a0.2.1,a0.2.2.1,a0.2.2.2,r10.1.1.1,r10.1.1.2.1,r10.1.1.2.2.1,r10.1.1.2.2.2,r10.1.2.1,()) (qh)) fun (A,B,C,D,E,F,G,_)=>
   aJ (
    iter (X:=lB) (β:=oJ) (B.length+(A.length+(Int.natAbs ((A.length:Int))+(Int.natAbs (0:Int)+(C.length+(D.length+(E.natAbs+(F.length+(G.length+2))))))))) (B,A,(A.length:Int),0,C,D,E,F,G,()) (oI)) fun v20=>
   (gX v20.1 ()).bind fun r21=>
   some (r21.1,0,()))
abbrev iM:Type:=(List aa)×Int×Int×Bys×Bys×Bys×Int×Int×Bool×(List Int)×Unit
abbrev iL:Type:=((ai×Unit) ⊕ (Bool×(List Int)×Unit))
def gy (x1:iM) (again:iM->Option iL):Option iL:=
 match x1 with
 | (A,B,C,D,E,F,G,H,I,J,_)=>
 bif decide (C<B) then
  (idx A C).bind fun y2=>
  (eV y2 (D,E,F,G,H)).bind fun r3=>
  bif r3.1==0 then
   (iO y2.2.2.2).bind fun r4=>
   some (.inl (r4.1,()))
  else
   again (A,B,w64 (C+1),D,E,F,G,H,I,J,())
 else
  some (.inr (I,J,()))
def yh (a0:List aa) (a1:aa):Option (ai×Unit):=
 aJ (
  iter (X:=iM) (β:=iL) (a0.length+(Int.natAbs ((a0.length:Int))+(Int.natAbs (0:Int)+(a1.1.length+(a1.2.1.length+(a1.2.2.1.length+(a1.2.2.2.1.natAbs+(a1.2.2.2.2.natAbs+(List.length ([]:List Int)+2))))))))) (a0,(a0.length:Int),0,a1.1,a1.2.1,a1.2.2.1,a1.2.2.2.1,a1.2.2.2.2,false,[],()) (gy)) fun _=>
 some ((false,[]),())
abbrev mB:Type:=(List aj)×(List aj)×Int×Int×(List aa)×Int×Int×Bys×Bool×(List aa)×(List aa)×Unit
abbrev qB:Type:=(((Int×Unit) ⊕ Unit) ⊕ ((List aj)×(List aj)×Int×Int×Unit))
def qA (x1:mB) (again:mB->Option qB):Option qB:=
 match x1 with
 | (A,B,C,D,E,F,G,H,I,J,K,_)=>
 bif decide (G<F) then
  (idx E G).bind fun y2=>
  (iO y2.2.2.2).bind fun r3=>
  (yh J y2).bind fun r4=>
  (Gn r3.1 r4.1).bind fun r5=>
  bif decide (r5.1>0) then
   F9 <|
    some (.inl (12,()))
  else
   again (A,B,C,D,E,F,w64 (G+1),H,I,J,K,())
 else
  some (.inr (A,B,C,D,()))
abbrev rD:Type:=(List aj)×(List aj)×Int×Int×Unit
abbrev yI:Type:=((Int×Unit) ⊕ Unit)
def rC (x1:rD) (again:rD->Option yI):Option yI:=
 match x1 with
 | (A,B,C,D,_)=>
 bif decide (D<C) then
  (idx B D).bind fun y2=>
  (zf y2.1).bind fun r3=>
  bif !r3.1 then
   some (.inl (3,()))
  else
   (
    bif decide (D>0) then
     Option.bind (idx A (w64 (D - 1))) fun y4=>
     some (Op.bytesLess y2.1 y4.1||y2.1==y4.1,())
    else
     some (false,())).bind fun v5=>
   bif v5.1 then
    some (.inl (8,()))
   else
    (
     bif y2.2.1 then
      some (decide ((w64 (((y2.2.2.1.length:Int))+((y2.2.2.2.length:Int))))>0),())
     else
      some (false,())).bind fun v6=>
    bif v6.1 then
     some (.inl (3,()))
    else
     (iK y2.2.2.1).bind fun r7=>
     bif r7.1 != 0 then
      some (.inl (r7.1,()))
     else
      (iK y2.2.2.2).bind fun r8=>
      bif r8.1 != 0 then
       some (.inl (r8.1,()))
      else
       aJ (
        iter (X:=mB) (β:=qB) (A.length+(B.length+(C.natAbs+(D.natAbs+(y2.2.2.2.length+(Int.natAbs ((y2.2.2.2.length:Int))+(Int.natAbs (0:Int)+(y2.1.length+(y2.2.2.1.length+(y2.2.2.2.length+2)))))))))) (A,B,C,D,y2.2.2.2,(y2.2.2.2.length:Int),0,y2.1,y2.2.1,y2.2.2.1,y2.2.2.2,()) (qA)) fun (E,F,G,H,_)=>
       again (E,F,G,w64 (H+1),())
 else
  some (.inr ())
def r0 (a0:List aj):Option (Int×Unit):=
 bif decide (((a0.length:Int))>500) then
  some (2,())
 else
  aJ (
   iter (X:=rD) (β:=yI) (a0.length+(a0.length+(Int.natAbs ((a0.length:Int))+(Int.natAbs (0:Int)+2)))) (a0,a0,(a0.length:Int),0,()) (rC)) fun _=>
  some (0,())
def ox (a0:aG) (a1:List aj):Option (Int×Unit):=
 (vY a0).bind fun r1=>
 bif r1.1 != 0 then
  some (r1.1,())
 else
  (r0 a1).bind fun r2=>
  some (r2.1,())
abbrev uU:Type:=Bys×(List aj)×Int×Int×Unit
abbrev Ez:Type:=((Int×Unit) ⊕ Unit)
def zN (x1:uU) (again:uU->Option Ez):Option Ez:=
 match x1 with
 | (A,B,C,D,_)=>
 bif decide (D<C) then
  (idx B D).bind fun y2=>
  bif y2.1==A then
   some (.inl (D,()))
  else
   again (A,B,C,w64 (D+1),())
 else
  some (.inr ())
def yj (a0:List aj) (a1:Bys):Option (Int×Unit):=
 aJ (
  iter (X:=uU) (β:=Ez) (a1.length+(a0.length+(Int.natAbs ((a0.length:Int))+(Int.natAbs (0:Int)+2)))) (a1,a0,(a0.length:Int),0,()) (zN)) fun _=>
 some ((-1),())
def kJ (self:(aG×(List aj)×Int×Unit)->Option (Bool×Unit)) (a0:aG) (a1:List aj) (a2:Int):Option (Bool×Unit):=
 (idx a0.2.2.2 a2).bind fun y1=>
 (yj a1 y1.1).bind fun r2=>
 bif decide (r2.1>=0) then
  some (true,())
 else
  bif y1.2.1==[] then
   some (false,())
  else
   (mC a0.2.2.2 y1.2.1).bind fun r3=>
   (yj a1 y1.2.1).bind fun r4=>
   (self (a0,a1,r3.1,())).bind fun r5=>
   bif r5.1 then
    bif decide (r4.1<0) then
     some (true,())
    else
     (idx a1 r4.1).bind fun y6=>
     some (y6.2.1,())
   else
    some (false,())
def Ew (a0:aG) (a1:List aj) (a2:Int):Nat:=a0.1.length+(a0.2.1.length+(a0.2.2.1.natAbs+(a0.2.2.2.length+(a1.length+(a2.natAbs+2)))))
def uj (a0:aG) (a1:List aj) (a2:Int):Option (Bool×Unit):=
 nL (fun self x=>kJ self x.1 x.2.1 x.2.2.1) (Ew a0 a1 a2) (a0,a1,a2,())
abbrev yg:Type:=(List aj)×Int×(List Int)×Int×Int×Bys×Bys×Int×(List ak)×Unit
abbrev yf:Type:=((Bool×Unit) ⊕ ((List aj)×Int×Bys×Bys×Int×(List ak)×Unit))
def sg (x1:yg) (again:yg->Option yf):Option yf:=
 match x1 with
 | (A,B,C,D,E,F,G,H,I,_)=>
 bif decide (E<D) then
  (idx C E).bind fun y2=>
  (uj (F,G,H,I) A y2).bind fun r3=>
  bif !r3.1 then
   some (.inl (false,()))
  else
   again (A,B,C,D,w64 (E+1),F,G,H,I,())
 else
  some (.inr (A,B,F,G,H,I,()))
def zg (a0:aG) (a1:List aj) (a2:Int):Option (Bool×Unit):=
 (Nf a0.2.2.2 a2).bind fun r1=>
 chk (decide (0<=(1:Int))&&decide ((1:Int)<=((r1.1.length:Int)))&&decide (((r1.1.length:Int))<=(r1.1.length:Int))) <|
 aJ (
  iter (X:=yg) (β:=yf) (a1.length+(a2.natAbs+(List.length (List.drop 1 (List.take (Int.toNat ((r1.1.length:Int))) r1.1))+(Int.natAbs ((List.length (List.drop 1 (List.take (Int.toNat ((r1.1.length:Int))) r1.1)):Int))+(Int.natAbs (0:Int)+(a0.1.length+(a0.2.1.length+(a0.2.2.1.natAbs+(a0.2.2.2.length+2))))))))) (a1,a2,List.drop 1 (List.take (Int.toNat ((r1.1.length:Int))) r1.1),(List.length (List.drop 1 (List.take (Int.toNat ((r1.1.length:Int))) r1.1)):Int),0,a0.1,a0.2.1,a0.2.2.1,a0.2.2.2,()) (sg)) fun (A,B,C,D,E,F,_)=>
 (uj (C,D,E,F) A B).bind fun r6=>
 some (!r6.1,())
abbrev qN:Type:=Int×Bys×Bys×Bys×Int×Int×Bool×(List Int)×(List aa)×(List ai)×Unit
abbrev qM:Type:=((((List aa)×(List ai)×Unit)×Unit) ⊕ (Int×Bys×Bys×Bys×Int×Int×Bool×(List Int)×(List aa)×(List ai)×Unit))
def gE (x1:qN) (again:qN->Option qM):Option qM:=
 match x1 with
 | (A,B,C,D,E,F,G,H,I,J,_)=>
 (
  bif decide (A<((I.length:Int))) then
   chk (decide (0<=A)&&decide (A<(I.length:Int))) <|
   Option.bind (I[A.toNat]?) fun y2=>
   Option.bind (eV y2 (B,C,D,E,F)) fun r3=>
   some (decide (r3.1<0),())
  else
   some (false,())).bind fun v4=>
 bif v4.1 then
  again (w64 (A+1),B,C,D,E,F,G,H,I,J,())
 else
  some (.inr (A,B,C,D,E,F,G,H,I,J,()))
def gq (a0:(List aa)×(List ai)×Unit) (a1:aa) (a2:ai):Option (((List aa)×(List ai)×Unit)×Unit):=
 aJ (
  iter (X:=qN) (β:=qM) (Int.natAbs (0:Int)+(a1.1.length+(a1.2.1.length+(a1.2.2.1.length+(Int.natAbs (0:Int)+(Int.natAbs (0:Int)+(a2.2.length+(a0.1.length+(a0.2.1.length+2))))))))) (0,a1.1,a1.2.1,a1.2.2.1,0,0,a2.1,a2.2,a0.1,a0.2.1,()) (gE)) fun (A,B,C,D,E,F,G,H,I,J,_)=>
 bif A==((I.length:Int)) then
  aJ (γ:=(Int×Bool×(List Int)×(List aa)×(List ai)×Unit)) (
   (gK I A [(B,C,D,E,F)]).bind fun r6=>
   (dO J A [(false,[])]).bind fun r7=>
   some (.inr (A,G,H,r6.1,r7.1,()))) fun (K,L,M,N,O,_)=>
  chk (decide (0<=K)&&decide (K<(O.length:Int))) <|
  (O[K.toNat]?).bind fun y9=>
  (ym y9 (L,M)).bind fun r10=>
  chk (decide (0<=K)&&decide (K<(O.length:Int))) <|
  (O[K.toNat]?).bind fun _=>
  some ((N,List.set O K.toNat r10.1,()),())
 else
  chk (decide (0<=A)&&decide (A<(I.length:Int))) <|
  (I[A.toNat]?).bind fun y12=>
  aJ (γ:=(Int×Bool×(List Int)×(List aa)×(List ai)×Unit)) (
   bif !((y12.1==B)&&((y12.2.1==C)&&((y12.2.2.1==D)&&(((y12.2.2.2.1==E)&&((y12.2.2.2.2==F)&&true))&&true)))) then
    (gK I A [(B,C,D,E,F)]).bind fun r13=>
    (dO J A [(false,[])]).bind fun r14=>
    some (.inr (A,G,H,r13.1,r14.1,()))
   else
    some (.inr (A,G,H,I,J,()))) fun (P,Q,R,S,T,_)=>
  chk (decide (0<=P)&&decide (P<(T.length:Int))) <|
  (T[P.toNat]?).bind fun y16=>
  (ym y16 (Q,R)).bind fun r17=>
  chk (decide (0<=P)&&decide (P<(T.length:Int))) <|
  (T[P.toNat]?).bind fun _=>
  some ((S,List.set T P.toNat r17.1,()),())
abbrev BD:Type:=Bys×(List aa)×(List aa)×Int×Int×(List aa)×(List ai)×Unit
abbrev BB:Type:=(((List an)×Unit) ⊕ (Bys×(List aa)×(List aa)×(List ai)×Unit))
def w9 (x1:BD) (again:BD->Option BB):Option BB:=
 match x1 with
 | (A,B,C,D,E,F,G,_)=>
 bif decide (E<D) then
  (idx C E).bind fun y2=>
  (iO y2.2.2.2).bind fun r3=>
  (An r3.1).bind fun r4=>
  (gq (F,G,()) y2 r4.1).bind fun r5=>
  again (A,B,C,D,w64 (E+1),r5.1.1,r5.1.2.1,())
 else
  some (.inr (A,B,F,G,()))
abbrev BE:Type:=Bys×(List aa)×Int×Int×(List aa)×(List ai)×Unit
abbrev BC:Type:=(((List an)×Unit) ⊕ (Bys×(List aa)×(List ai)×Unit))
def xb (x1:BE) (again:BE->Option BC):Option BC:=
 match x1 with
 | (A,B,C,D,E,F,_)=>
 bif decide (D<C) then
  (idx B D).bind fun y2=>
  (iO y2.2.2.2).bind fun r3=>
  (gq (E,F,()) y2 r3.1).bind fun r4=>
  again (A,B,C,w64 (D+1),r4.1.1,r4.1.2.1,())
 else
  some (.inr (A,E,F,()))
abbrev zI:Type:=Bys×(List an)×(List aa)×Int×Int×(List aa)×(List ai)×Unit
abbrev zH:Type:=(((List an)×Unit) ⊕ ((List an)×Unit))
def uT (x1:zI) (again:zI->Option zH):Option zH:=
 match x1 with
 | (A,B,C,D,E,F,G,_)=>
 bif decide (E<D) then
  (idx C E).bind fun y2=>
  chk (decide (0<=E)&&decide (E<(G.length:Int))) <|
  (G[E.toNat]?).bind fun y3=>
  (CN y3).bind fun r4=>
  bif r4.1.1==0 then
   again (A,B,C,D,w64 (E+1),F,G,())
  else
   aJ (γ:=(Bys×(List an)×Int×(List aa)×Int×Int×(List aa)×(List ai)×Bys×Bys×Bys×Int×Int×Int×Int×Unit)) (
    bif decide (r4.1.1<0) then
     some (.inr (A,B,3,C,D,E,F,G,y2.1,y2.2.1,y2.2.2.1,y2.2.2.2.1,y2.2.2.2.2,w64 (0 - r4.1.1),r4.1.2,()))
    else
     some (.inr (A,B,4,C,D,E,F,G,y2.1,y2.2.1,y2.2.2.1,y2.2.2.2.1,y2.2.2.2.2,r4.1.1,r4.1.2,()))) fun (H,I,J,K,L,M,N,O,P,Q,R,_,_,S,T,_)=>
   chk (decide (((I.length)+1)*88<=140737488355328)&&decide ((I.length)+1<=maxLen)) <|
   again (H,I++[(J,H,P,Q,R,S,T)],K,L,w64 (M+1),N,O,())
 else
  some (.inr (B,()))
def HD (a0:Bys) (a1:List aa) (a2:List aa):Option ((List an)×Unit):=
 aJ (
  iter (X:=BD) (β:=BB) (a0.length+(a2.length+(a1.length+(Int.natAbs ((a1.length:Int))+(Int.natAbs (0:Int)+(List.length ([]:List aa)+(List.length ([]:List ai)+2))))))) (a0,a2,a1,(a1.length:Int),0,[],[],()) (w9)) fun (A,B,C,D,_)=>
 aJ (
  iter (X:=BE) (β:=BC) (A.length+(B.length+(Int.natAbs ((B.length:Int))+(Int.natAbs (0:Int)+(C.length+(D.length+2)))))) (A,B,(B.length:Int),0,C,D,()) (xb)) fun (E,F,G,_)=>
 aJ (
  iter (X:=zI) (β:=zH) (E.length+(List.length ([]:List an)+(F.length+(Int.natAbs ((F.length:Int))+(Int.natAbs (0:Int)+(F.length+(G.length+2))))))) (E,[],F,(F.length:Int),0,F,G,()) (uT)) fun v17=>
 some (v17.1,())
def uo (a0:an):Option (aa×Unit):=
 some ((a0.2.2.1,a0.2.2.2.1,a0.2.2.2.2.1,0,0),())
def Fj (a0:an) (a1:an):Option (Bool×Unit):=
 bif !(a0.2.1==a1.2.1) then
  some (Op.bytesLess a0.2.1 a1.2.1,())
 else
  (uo a0).bind fun r1=>
  (uo a1).bind fun r2=>
  (eV r1.1 r2.1).bind fun r3=>
  bif r3.1 != 0 then
   some (decide (r3.1<0),())
  else
   some (decide (a0.1<a1.1),())
abbrev sd:Type:=(List aj)×(List an)×(List ak)×Int×Int×Bys×Bys×Int×(List ak)×Unit
abbrev ye:Type:=(((List an)×Int×Unit) ⊕ ((List aj)×(List an)×Bys×Bys×Int×(List ak)×Unit))
def yc (x1:sd) (again:sd->Option ye):Option ye:=
 match x1 with
 | (A,B,C,D,E,F,G,H,I,_)=>
 bif decide (E<D) then
  (idx C E).bind fun y2=>
  (zg (F,G,H,I) A E).bind fun r3=>
  bif r3.1 then
   chk (decide (((B.length)+1)*88<=140737488355328)&&decide ((B.length)+1<=maxLen)) <|
   again (A,B++[(1,y2.1,[],[],[],0,0)],C,D,w64 (E+1),F,G,H,I,())
  else
   again (A,B,C,D,w64 (E+1),F,G,H,I,())
 else
  some (.inr (A,B,F,G,H,I,()))
abbrev mQ:Type:=(List an)×(List aj)×Int×Int×(List aa)×Int×Int×Bys×Bys×Int×(List ak)×Bys×Bool×(List aa)×(List aa)×Unit
abbrev qE:Type:=((((List an)×Int×Unit) ⊕ ((List an)×Unit)) ⊕ ((List an)×(List aj)×Int×Int×Bys×Bys×Int×(List ak)×Unit))
def qC (x1:mQ) (again:mQ->Option qE):Option qE:=
 match x1 with
 | (A,B,C,D,E,F,G,H,I,J,K,L,M,N,O,_)=>
 bif decide (G<F) then
  (idx E G).bind fun y2=>
  (AU y2.2.2.2).bind fun r3=>
  chk (decide (((A.length)+1)*88<=140737488355328)&&decide ((A.length)+1<=maxLen)) <|
  again (A++[(5,L,y2.1,y2.2.1,y2.2.2.1,r3.1)],B,C,D,E,F,w64 (G+1),H,I,J,K,L,M,N,O,())
 else
  some (.inr (A,B,C,D,H,I,J,K,()))
abbrev qG:Type:=(List an)×(List aj)×Int×Int×Bys×Bys×Int×(List ak)×Unit
abbrev we:Type:=(((List an)×Int×Unit) ⊕ ((List an)×Unit))
def vZ (x1:qG) (again:qG->Option we):Option we:=
 match x1 with
 | (A,B,C,D,E,F,G,H,_)=>
 bif decide (D<C) then
  (idx B D).bind fun y2=>
  (mC H y2.1).bind fun r3=>
  aJ (γ:=((List an)×Int×(List aj)×Int×Int×Bys×Bys×Int×(List ak)×Bys×Bool×(List aa)×(List aa)×Unit)) (
   bif decide (r3.1<0) then
    chk (decide (((A.length)+1)*88<=140737488355328)&&decide ((A.length)+1<=maxLen)) <|
    some (.inr (A++[(2,y2.1,[],[],[],0,0)],r3.1,B,C,D,E,F,G,H,y2.1,y2.2.1,y2.2.2.1,y2.2.2.2,()))
   else
    some (.inr (A,r3.1,B,C,D,E,F,G,H,y2.1,y2.2.1,y2.2.2.1,y2.2.2.2,()))) fun (I,J,K,L,M,N,O,P,Q,R,S,T,U,_)=>
  (
   bif decide (J>=0) then
    some (!S,())
   else
    some (false,())).bind fun v5=>
  aJ (γ:=((List an)×(List aj)×Int×Int×Bys×Bys×Int×(List ak)×Bys×Bool×(List aa)×(List aa)×Unit)) (
   bif v5.1 then
    (idx Q J).bind fun y6=>
    (HD R y6.2.2.2 T).bind fun r7=>
    chk (decide (((I.length)+(r7.1.length))*88<=140737488355328)&&decide ((I.length)+(r7.1.length)<=maxLen)) <|
    some (.inr (I++r7.1,K,L,M,N,O,P,Q,R,S,T,U,()))
   else
    some (.inr (I,K,L,M,N,O,P,Q,R,S,T,U,()))) fun (V,W,Y,Z,A0,B0,C0,D0,E0,F0,G0,H0,_)=>
  aJ (
   iter (X:=mQ) (β:=qE) (V.length+(W.length+(Y.natAbs+(Z.natAbs+(H0.length+(Int.natAbs ((H0.length:Int))+(Int.natAbs (0:Int)+(A0.length+(B0.length+(C0.natAbs+(D0.length+(E0.length+(G0.length+(H0.length+2)))))))))))))) (V,W,Y,Z,H0,(H0.length:Int),0,A0,B0,C0,D0,E0,F0,G0,H0,()) (qC)) fun (I0,J0,K0,L0,M0,N0,O0,P0,_)=>
  again (I0,J0,K0,w64 (L0+1),M0,N0,O0,P0,())
 else
  some (.inr (A,()))
abbrev wh:Type:=(List an)×Int×(List an)×Int×Int×Int×Bys×Bys×Bys×Bys×Int×Int×Unit
abbrev wg:Type:=((((List an)×Int×Unit) ⊕ ((List an)×Unit)) ⊕ ((List an)×Int×(List an)×Int×Int×Int×Bys×Bys×Bys×Bys×Int×Int×Unit))
def qD (x1:wh) (again:wh->Option wg):Option wg:=
 match x1 with
 | (A,B,C,D,E,F,G,H,I,J,K,L,_)=>
 (
  bif decide (B>0) then
   chk (decide (0<=(w64 (B - 1)))&&decide ((w64 (B - 1))<(A.length:Int))) <|
   Option.bind (A[(w64 (B - 1)).toNat]?) fun y2=>
   Option.bind (Fj (F,G,H,I,J,K,L) y2) fun r3=>
   some (r3.1,())
  else
   some (false,())).bind fun v4=>
 bif v4.1 then
  again (A,w64 (B - 1),C,D,E,F,G,H,I,J,K,L,())
 else
  some (.inr (A,B,C,D,E,F,G,H,I,J,K,L,()))
abbrev qH:Type:=(List an)×(List an)×Int×Int×Unit
abbrev qF:Type:=(((List an)×Int×Unit) ⊕ ((List an)×Unit))
def mP (x1:qH) (again:qH->Option qF):Option qF:=
 match x1 with
 | (A,B,C,D,_)=>
 bif decide (D<C) then
  chk (decide (0<=D)&&decide (D<(B.length:Int))) <|
  (B[D.toNat]?).bind fun y2=>
  aJ (
   iter (X:=wh) (β:=wg) (A.length+(Int.natAbs ((A.length:Int))+(B.length+(C.natAbs+(D.natAbs+(y2.1.natAbs+(y2.2.1.length+(y2.2.2.1.length+(y2.2.2.2.1.length+(y2.2.2.2.2.1.length+(y2.2.2.2.2.2.1.natAbs+(y2.2.2.2.2.2.2.natAbs+2)))))))))))) (A,(A.length:Int),B,C,D,y2.1,y2.2.1,y2.2.2.1,y2.2.2.2.1,y2.2.2.2.2.1,y2.2.2.2.2.2.1,y2.2.2.2.2.2.2,()) (qD)) fun (E,F,G,H,I,J,K,L,M,N,O,P,_)=>
  (lS E F [(J,K,L,M,N,O,P)]).bind fun r4=>
  again (r4.1,G,H,w64 (I+1),())
 else
  some (.inr (A,()))
def Dk (a0:aG) (a1:List aj):Option ((List an)×Int×Unit):=
 (ox a0 a1).bind fun r1=>
 bif r1.1 != 0 then
  some ([],r1.1,())
 else
  aJ (
   iter (X:=sd) (β:=ye) (a1.length+(List.length ([]:List an)+(a0.2.2.2.length+(Int.natAbs ((a0.2.2.2.length:Int))+(Int.natAbs (0:Int)+(a0.1.length+(a0.2.1.length+(a0.2.2.1.natAbs+(a0.2.2.2.length+2))))))))) (a1,[],a0.2.2.2,(a0.2.2.2.length:Int),0,a0.1,a0.2.1,a0.2.2.1,a0.2.2.2,()) (yc)) fun (A,B,C,D,E,F,_)=>
  aJ (
   iter (X:=qG) (β:=we) (B.length+(A.length+(Int.natAbs ((A.length:Int))+(Int.natAbs (0:Int)+(C.length+(D.length+(E.natAbs+(F.length+2)))))))) (B,A,(A.length:Int),0,C,D,E,F,()) (vZ)) fun v18=>
  aJ (
   iter (X:=qH) (β:=qF) (List.length ([]:List an)+(v18.1.length+(Int.natAbs ((v18.1.length:Int))+(Int.natAbs (0:Int)+2)))) ([],v18.1,(v18.1.length:Int),0,()) (mP)) fun v27=>
  some (v27.1,0,())
abbrev eN:Type:=(List an)×(List an)×Int×Int×Unit
abbrev gI:Type:=((Bool×Unit) ⊕ Unit)
def gH (x1:eN) (again:eN->Option gI):Option gI:=
 match x1 with
 | (A,B,C,D,_)=>
 bif decide (D<C) then
  (idx A D).bind fun y2=>
  (idx B D).bind fun y3=>
  bif !((y2.1==y3.1)&&((y2.2.1==y3.2.1)&&((y2.2.2.1==y3.2.2.1)&&((y2.2.2.2.1==y3.2.2.2.1)&&((y2.2.2.2.2.1==y3.2.2.2.2.1)&&(((y2.2.2.2.2.2.1==y3.2.2.2.2.2.1)&&((y2.2.2.2.2.2.2==y3.2.2.2.2.2.2)&&true))&&true)))))) then
   some (.inl (false,()))
  else
   again (A,B,C,w64 (D+1),())
 else
  some (.inr ())
def iP (a0:List an) (a1:List an):Option (Bool×Unit):=
 bif ((a0.length:Int)) != ((a1.length:Int)) then
  some (false,())
 else
  aJ (
   iter (X:=eN) (β:=gI) (a0.length+(a1.length+(Int.natAbs ((a0.length:Int))+(Int.natAbs (0:Int)+2)))) (a0,a1,(a0.length:Int),0,()) (gH)) fun _=>
  some (true,())
def w5 (a0:ax):Option (ax×Unit):=
 some ((w64 (0 - a0.1),a0.2),())
abbrev mA:Type:=(List aj)×Int×Int×(List aa)×Int×Int×Bys×Bys×Int×(List ak)×Bys×Bool×(List aa)×(List aa)×Bys×Bys×Int×(List ak)×(List aj)×(List (bz×aB))×Unit
abbrev qs:Type:=((((List bD)×Int×Unit) ⊕ (Bys×Bys×Int×(List ak)×Bys×Bys×Int×(List ak)×(List aj)×(List (bz×aB))×Unit)) ⊕ ((List aj)×Int×Int×Bys×Bys×Int×(List ak)×Bys×Bool×(List aa)×(List aa)×Bys×Bys×Int×(List ak)×(List aj)×(List (bz×aB))×Unit))
def qm (x1:mA) (again:mA->Option qs):Option qs:=
 match x1 with
 | (A,B,C,D,E,F,G,H,I,J,K,L,M,N,O,P,Q,R,S,T,_)=>
 bif decide (F<E) then
  (idx D F).bind fun y2=>
  (gP T (y2.1,y2.2.1) y2.2.2.2).bind fun r3=>
  again (A,B,C,D,E,w64 (F+1),G,H,I,J,K,L,M,N,O,P,Q,R,S,r3.1,())
 else
  some (.inr (A,B,C,G,H,I,J,K,L,M,N,O,P,Q,R,S,T,()))
abbrev lC:Type:=(List aj)×Int×Int×(List aa)×Int×Int×Bys×Bys×Int×(List ak)×Bys×Bys×Int×(List ak)×(List aj)×(List (bz×aB))×Unit
abbrev oN:Type:=((((List bD)×Int×Unit) ⊕ (Bys×Bys×Int×(List ak)×Bys×Bys×Int×(List ak)×(List aj)×(List (bz×aB))×Unit)) ⊕ ((List aj)×Int×Int×Bys×Bys×Int×(List ak)×Bys×Bys×Int×(List ak)×(List aj)×(List (bz×aB))×Unit))
def oK (x1:lC) (again:lC->Option oN):Option oN:=
 match x1 with
 | (A,B,C,D,E,F,G,H,I,J,K,L,M,N,O,P,_)=>
 bif decide (F<E) then
  (idx D F).bind fun y2=>
  (w5 y2.2.2.2).bind fun r3=>
  (gP P (y2.1,y2.2.1) r3.1).bind fun r4=>
  again (A,B,C,D,E,w64 (F+1),G,H,I,J,K,L,M,N,O,r4.1,())
 else
  some (.inr (A,B,C,G,H,I,J,K,L,M,N,O,P,()))
abbrev mz:Type:=(List aj)×Int×Int×Bys×Bys×Int×(List ak)×Bys×Bys×Int×(List ak)×(List aj)×(List (bz×aB))×Unit
abbrev qo:Type:=(((List bD)×Int×Unit) ⊕ (Bys×Bys×Int×(List ak)×Bys×Bys×Int×(List ak)×(List aj)×(List (bz×aB))×Unit))
def qj (x1:mz) (again:mz->Option qo):Option qo:=
 match x1 with
 | (A,B,C,D,E,F,G,H,I,J,K,L,M,_)=>
 bif decide (C<B) then
  (idx A C).bind fun y2=>
  aJ (
   iter (X:=mA) (β:=qs) (A.length+(B.natAbs+(C.natAbs+(y2.2.2.1.length+(Int.natAbs ((y2.2.2.1.length:Int))+(Int.natAbs (0:Int)+(D.length+(E.length+(F.natAbs+(G.length+(y2.1.length+(y2.2.2.1.length+(y2.2.2.2.length+(H.length+(I.length+(J.natAbs+(K.length+(L.length+(M.length+2))))))))))))))))))) (A,B,C,y2.2.2.1,(y2.2.2.1.length:Int),0,D,E,F,G,y2.1,y2.2.1,y2.2.2.1,y2.2.2.2,H,I,J,K,L,M,()) (qm)) fun (N,O,P,Q,R,S,T,_,_,_,U,V,W,Y,Z,A0,B0,_)=>
  aJ (
   iter (X:=lC) (β:=oN) (N.length+(O.natAbs+(P.natAbs+(U.length+(Int.natAbs ((U.length:Int))+(Int.natAbs (0:Int)+(Q.length+(R.length+(S.natAbs+(T.length+(V.length+(W.length+(Y.natAbs+(Z.length+(A0.length+(B0.length+2)))))))))))))))) (N,O,P,U,(U.length:Int),0,Q,R,S,T,V,W,Y,Z,A0,B0,()) (oK)) fun (C0,D0,E0,F0,G0,H0,I0,J0,K0,L0,M0,N0,O0,_)=>
  again (C0,D0,w64 (E0+1),F0,G0,H0,I0,J0,K0,L0,M0,N0,O0,())
 else
  some (.inr (D,E,F,G,H,I,J,K,L,M,()))
abbrev lE:Type:=(List ak)×Int×Int×(List aa)×Int×Int×Bys×Bys×Int×(List ak)×(List aj)×(List (bz×aB))×Unit
abbrev oP:Type:=((((List bD)×Int×Unit) ⊕ ((List (bz×aB))×Unit)) ⊕ ((List ak)×Int×Int×Bys×Bys×Int×(List ak)×(List aj)×(List (bz×aB))×Unit))
def oM (x1:lE) (again:lE->Option oP):Option oP:=
 match x1 with
 | (A,B,C,D,E,F,G,H,I,J,K,L,_)=>
 bif decide (F<E) then
  (idx D F).bind fun y2=>
  (gP L (y2.1,y2.2.1) y2.2.2.2).bind fun r3=>
  again (A,B,C,D,E,w64 (F+1),G,H,I,J,K,r3.1,())
 else
  some (.inr (A,B,C,G,H,I,J,K,L,()))
abbrev lD:Type:=(List ak)×Int×Int×Bys×Bys×Int×(List ak)×(List aj)×(List (bz×aB))×Unit
abbrev oO:Type:=(((List bD)×Int×Unit) ⊕ ((List (bz×aB))×Unit))
def oL (x1:lD) (again:lD->Option oO):Option oO:=
 match x1 with
 | (A,B,C,D,E,F,G,H,I,_)=>
 bif decide (C<B) then
  (idx A C).bind fun y2=>
  (gO ((D,E,F,G),H,()) y2.1).bind fun r3=>
  (
   Option.bind (fk (r3.2.2.1.1,r3.2.2.1.2.1) C) fun r4=>
   bif !r4.1 then
    some (true,())
   else
    bif r3.2.1 then
     some (!r3.1.2.1,())
    else
     some (false,())).bind fun v5=>
  bif v5.1 then
   again (A,B,w64 (C+1),r3.2.2.1.1.1,r3.2.2.1.1.2.1,r3.2.2.1.1.2.2.1,r3.2.2.1.1.2.2.2,r3.2.2.1.2.1,I,())
  else
   aJ (
    iter (X:=lE) (β:=oP) (A.length+(B.natAbs+(C.natAbs+(y2.2.2.2.length+(Int.natAbs ((y2.2.2.2.length:Int))+(Int.natAbs (0:Int)+(r3.2.2.1.1.1.length+(r3.2.2.1.1.2.1.length+(r3.2.2.1.1.2.2.1.natAbs+(r3.2.2.1.1.2.2.2.length+(r3.2.2.1.2.1.length+(I.length+2)))))))))))) (A,B,C,y2.2.2.2,(y2.2.2.2.length:Int),0,r3.2.2.1.1.1,r3.2.2.1.1.2.1,r3.2.2.1.1.2.2.1,r3.2.2.1.1.2.2.2,r3.2.2.1.2.1,I,()) (oM)) fun (J,K,L,M,N,O,P,Q,R,_)=>
   again (J,K,w64 (L+1),M,N,O,P,Q,R,())
 else
  some (.inr (I,()))
def mO (a0:aG) (a1:List aj):Option ((List bD)×Int×Unit):=
 R8 (gW a0 a1) (fun r1=>
  bif r1.2.1 != 0 then
   some ([],r1.2.1,())
  else
   none) (
  (om a0 a1).bind fun r2=>
  bif r2.2.1 != 0 then
   some ([],r2.2.1,())
  else
   aJ (
    iter (X:=mz) (β:=qo) (a1.length+(Int.natAbs ((a1.length:Int))+(Int.natAbs (0:Int)+(a0.1.length+(a0.2.1.length+(a0.2.2.1.natAbs+(a0.2.2.2.length+(r2.1.1.1.length+(r2.1.1.2.1.length+(r2.1.1.2.2.1.natAbs+(r2.1.1.2.2.2.length+(r2.1.2.1.length+(List.length ([]:List (bz×aB))+2))))))))))))) (a1,(a1.length:Int),0,a0.1,a0.2.1,a0.2.2.1,a0.2.2.2,r2.1.1.1,r2.1.1.2.1,r2.1.1.2.2.1,r2.1.1.2.2.2,r2.1.2.1,[],()) (qj)) fun (_,_,_,A,B,C,D,E,F,G,_)=>
   aJ (
    iter (X:=lD) (β:=oO) (A.length+(Int.natAbs ((A.length:Int))+(Int.natAbs (0:Int)+(B.length+(C.length+(D.natAbs+(E.length+(F.length+(G.length+2))))))))) (A,(A.length:Int),0,B,C,D,E,F,G,()) (oL)) fun v24=>
   (yb v24.1).bind fun r25=>
   some (r25.1,r25.2.1,()))
abbrev rF:Type:=(List bD)×Int×Int×(List aa)×(List ai)×Unit
abbrev rE:Type:=(((List bD)×Int×((List aa)×(List ai)×Unit)×Unit) ⊕ ((List bD)×(List aa)×(List ai)×Unit))
def nt (x1:rF) (again:rF->Option rE):Option rE:=
 match x1 with
 | (A,B,C,D,E,_)=>
 bif decide (C<B) then
  chk (decide (0<=C)&&decide (C<(D.length:Int))) <|
  (D[C.toNat]?).bind fun y2=>
  chk (decide (0<=C)&&decide (C<(E.length:Int))) <|
  (E[C.toNat]?).bind fun y3=>
  (CN y3).bind fun r4=>
  bif r4.2.1 != 0 then
   some (.inl ([],r4.2.1,(D,E,()),()))
  else
   bif r4.1.1 != 0 then
    chk (decide (((A.length)+1)*48<=140737488355328)&&decide ((A.length)+1<=maxLen)) <|
    again (A++[(y2.1,y2.2.1,r4.1)],B,w64 (C+1),D,E,())
   else
    again (A,B,w64 (C+1),D,E,())
 else
  some (.inr (A,D,E,()))
def yl (a0:(List aa)×(List ai)×Unit):Option ((List bD)×Int×((List aa)×(List ai)×Unit)×Unit):=
 aJ (
  iter (X:=rF) (β:=rE) (List.length ([]:List bD)+(Int.natAbs ((a0.1.length:Int))+(Int.natAbs (0:Int)+(a0.1.length+(a0.2.1.length+2))))) ([],(a0.1.length:Int),0,a0.1,a0.2.1,()) (nt)) fun v5=>
 some (v5.1,0,(v5.2.1,v5.2.2.1,()),())
abbrev qJ:Type:=(List aj)×(List aj)×Int×Int×(List aa)×Int×Int×Bys×Bys×Int×(List ak)×(List aa)×(List ai)×Bys×Bool×(List aa)×(List aa)×Unit
abbrev wo:Type:=((((List bD)×Int×Unit) ⊕ ((List aj)×Bys×Bys×Int×(List ak)×(List aa)×(List ai)×Unit)) ⊕ ((List aj)×(List aj)×Int×Int×Bys×Bys×Int×(List ak)×(List aa)×(List ai)×Bys×Bool×(List aa)×(List aa)×Unit))
def wk (x1:qJ) (again:qJ->Option wo):Option wo:=
 match x1 with
 | (A,B,C,D,E,F,G,H,I,J,K,L,M,N,O,P,Q,_)=>
 bif decide (G<F) then
  (idx E G).bind fun y2=>
  (iO y2.2.2.2).bind fun r3=>
  (gq (L,M,()) (y2.1,y2.2.1,[],0,0) r3.1).bind fun r4=>
  again (A,B,C,D,E,F,w64 (G+1),H,I,J,K,r4.1.1,r4.1.2.1,N,O,P,Q,())
 else
  some (.inr (A,B,C,D,H,I,J,K,L,M,N,O,P,Q,()))
abbrev ot:Type:=(List aj)×(List aj)×Int×Int×(List aa)×Int×Int×Bys×Bys×Int×(List ak)×(List aa)×(List ai)×Unit
abbrev uf:Type:=((((List bD)×Int×Unit) ⊕ ((List aj)×Bys×Bys×Int×(List ak)×(List aa)×(List ai)×Unit)) ⊕ ((List aj)×(List aj)×Int×Int×Bys×Bys×Int×(List ak)×(List aa)×(List ai)×Unit))
def ua (x1:ot) (again:ot->Option uf):Option uf:=
 match x1 with
 | (A,B,C,D,E,F,G,H,I,J,K,L,M,_)=>
 bif decide (G<F) then
  (idx E G).bind fun y2=>
  (iO y2.2.2.2).bind fun r3=>
  (An r3.1).bind fun r4=>
  (gq (L,M,()) (y2.1,y2.2.1,[],0,0) r4.1).bind fun r5=>
  again (A,B,C,D,E,F,w64 (G+1),H,I,J,K,r5.1.1,r5.1.2.1,())
 else
  some (.inr (A,B,C,D,H,I,J,K,L,M,()))
abbrev qI:Type:=(List aj)×(List aj)×Int×Int×Bys×Bys×Int×(List ak)×(List aa)×(List ai)×Unit
abbrev wm:Type:=(((List bD)×Int×Unit) ⊕ ((List aj)×Bys×Bys×Int×(List ak)×(List aa)×(List ai)×Unit))
def wj (x1:qI) (again:qI->Option wm):Option wm:=
 match x1 with
 | (A,B,C,D,E,F,G,H,I,J,_)=>
 bif decide (D<C) then
  (idx B D).bind fun y2=>
  aJ (
   iter (X:=qJ) (β:=wo) (A.length+(B.length+(C.natAbs+(D.natAbs+(y2.2.2.1.length+(Int.natAbs ((y2.2.2.1.length:Int))+(Int.natAbs (0:Int)+(E.length+(F.length+(G.natAbs+(H.length+(I.length+(J.length+(y2.1.length+(y2.2.2.1.length+(y2.2.2.2.length+2)))))))))))))))) (A,B,C,D,y2.2.2.1,(y2.2.2.1.length:Int),0,E,F,G,H,I,J,y2.1,y2.2.1,y2.2.2.1,y2.2.2.2,()) (wk)) fun (K,L,M,N,O,P,Q,R,S,T,_,_,_,U,_)=>
  aJ (
   iter (X:=ot) (β:=uf) (K.length+(L.length+(M.natAbs+(N.natAbs+(U.length+(Int.natAbs ((U.length:Int))+(Int.natAbs (0:Int)+(O.length+(P.length+(Q.natAbs+(R.length+(S.length+(T.length+2))))))))))))) (K,L,M,N,U,(U.length:Int),0,O,P,Q,R,S,T,()) (ua)) fun (V,W,Y,Z,A0,B0,C0,D0,E0,F0,_)=>
  again (V,W,Y,w64 (Z+1),A0,B0,C0,D0,E0,F0,())
 else
  some (.inr (A,E,F,G,H,I,J,()))
abbrev ov:Type:=(List aj)×(List ak)×Int×Int×(List aa)×Int×Int×Bys×Bys×Int×(List ak)×(List aa)×(List ai)×Unit
abbrev uh:Type:=((((List bD)×Int×Unit) ⊕ ((List aa)×(List ai)×Unit)) ⊕ ((List aj)×(List ak)×Int×Int×Bys×Bys×Int×(List ak)×(List aa)×(List ai)×Unit))
def ud (x1:ov) (again:ov->Option uh):Option uh:=
 match x1 with
 | (A,B,C,D,E,F,G,H,I,J,K,L,M,_)=>
 bif decide (G<F) then
  (idx E G).bind fun y2=>
  (iO y2.2.2.2).bind fun r3=>
  (gq (L,M,()) (y2.1,y2.2.1,[],0,0) r3.1).bind fun r4=>
  again (A,B,C,D,E,F,w64 (G+1),H,I,J,K,r4.1.1,r4.1.2.1,())
 else
  some (.inr (A,B,C,D,H,I,J,K,L,M,()))
abbrev ou:Type:=(List aj)×(List ak)×Int×Int×Bys×Bys×Int×(List ak)×(List aa)×(List ai)×Unit
abbrev ug:Type:=(((List bD)×Int×Unit) ⊕ ((List aa)×(List ai)×Unit))
def uc (x1:ou) (again:ou->Option ug):Option ug:=
 match x1 with
 | (A,B,C,D,E,F,G,H,I,J,_)=>
 bif decide (D<C) then
  (idx B D).bind fun y2=>
  (yj A y2.1).bind fun r3=>
  (
   Option.bind (uj (E,F,G,H) A D) fun r4=>
   bif !r4.1 then
    some (true,())
   else
    bif decide (r3.1>=0) then
     Option.bind (idx A r3.1) fun y5=>
     some (!y5.2.1,())
    else
     some (false,())).bind fun v6=>
  bif v6.1 then
   again (A,B,C,w64 (D+1),E,F,G,H,I,J,())
  else
   aJ (
    iter (X:=ov) (β:=uh) (A.length+(B.length+(C.natAbs+(D.natAbs+(y2.2.2.2.length+(Int.natAbs ((y2.2.2.2.length:Int))+(Int.natAbs (0:Int)+(E.length+(F.length+(G.natAbs+(H.length+(I.length+(J.length+2))))))))))))) (A,B,C,D,y2.2.2.2,(y2.2.2.2.length:Int),0,E,F,G,H,I,J,()) (ud)) fun (K,L,M,N,O,P,Q,R,S,T,_)=>
   again (K,L,M,w64 (N+1),O,P,Q,R,S,T,())
 else
  some (.inr (I,J,()))
def w8 (a0:aG) (a1:List aj):Option ((List bD)×Int×Unit):=
 (ox a0 a1).bind fun r1=>
 bif r1.1 != 0 then
  some ([],r1.1,())
 else
  aJ (
   iter (X:=qI) (β:=wm) (a1.length+(a1.length+(Int.natAbs ((a1.length:Int))+(Int.natAbs (0:Int)+(a0.1.length+(a0.2.1.length+(a0.2.2.1.natAbs+(a0.2.2.2.length+(List.length ([]:List aa)+(List.length ([]:List ai)+2)))))))))) (a1,a1,(a1.length:Int),0,a0.1,a0.2.1,a0.2.2.1,a0.2.2.2,[],[],()) (wj)) fun (A,B,C,D,E,F,G,_)=>
  aJ (
   iter (X:=ou) (β:=ug) (A.length+(E.length+(Int.natAbs ((E.length:Int))+(Int.natAbs (0:Int)+(B.length+(C.length+(D.natAbs+(E.length+(F.length+(G.length+2)))))))))) (A,E,(E.length:Int),0,B,C,D,E,F,G,()) (uc)) fun v27=>
  (yl (v27.1,v27.2.1,())).bind fun r28=>
  some (r28.1,r28.2.1,())
abbrev gJ:Type:=(List bD)×(List bD)×Int×Int×Unit
abbrev jM:Type:=((Bool×Unit) ⊕ Unit)
def jK (x1:gJ) (again:gJ->Option jM):Option jM:=
 match x1 with
 | (A,B,C,D,_)=>
 bif decide (D<C) then
  (idx A D).bind fun y2=>
  (idx B D).bind fun y3=>
  bif !((y2.1==y3.1)&&((y2.2.1==y3.2.1)&&(((y2.2.2.1==y3.2.2.1)&&((y2.2.2.2==y3.2.2.2)&&true))&&true))) then
   some (.inl (false,()))
  else
   again (A,B,C,w64 (D+1),())
 else
  some (.inr ())
def l8 (a0:List bD) (a1:List bD):Option (Bool×Unit):=
 bif ((a0.length:Int)) != ((a1.length:Int)) then
  some (false,())
 else
  aJ (
   iter (X:=gJ) (β:=jM) (a0.length+(a1.length+(Int.natAbs ((a0.length:Int))+(Int.natAbs (0:Int)+2)))) (a0,a1,(a0.length:Int),0,()) (jK)) fun _=>
  some (true,())
def kD (a0:aG) (a1:List aj):Option (Bool×Unit):=
 (ya a0 a1).bind fun r1=>
 (Dk a0 a1).bind fun r2=>
 (kL a1).bind fun r3=>
 (r0 a1).bind fun r4=>
 bif r3.1 != r4.1 then
  some (false,())
 else
  bif r1.2.1 != r2.2.1 then
   some (false,())
  else
   (iP r1.1 r2.1).bind fun r5=>
   bif !r5.1 then
    some (false,())
   else
    (mO a0 a1).bind fun r6=>
    (w8 a0 a1).bind fun r7=>
    (
     bif r6.2.1==r7.2.1 then
      Option.bind (l8 r6.1 r7.1) fun r8=>
      bif r8.1 then
       Option.bind (MY) fun r9=>
       some (r9.1,())
      else
       some (false,())
     else
      some (false,())).bind fun v10=>
    some (v10.1,())
end
end Go.Md
