/-
  The plain models of the functions that the law reaches, second part. No condition.
-/
import Derived.Test.YtcndcnfjdanbeaaGreatDoorXm
import Derived.Lib.Bytealg
import Derived.Lib.Repeat
import Derived.Lib.ItoaNum
set_option linter.all false
namespace Go.Md
open Go.Dn
abbrev yf:Type:=Int×Int×Int×Unit
abbrev ye:Type:=((Int×Unit) ⊕ (Int×Unit))
def LW (x1:yf) (again:yf→Option ye):Option ye:=
 bif decide (x1.2.2.1<x1.2.1) then
  again (w64 (x1.1*10),x1.2.1,w64 (x1.2.2.1+1),())
 else
  some (.inr (x1.1,()))
def yC (a0:Int):Option (Int×Unit):=
 aL (
  iter (X:=yf) (β:=ye) (Int.natAbs (1:Int)+(a0.natAbs+(Int.natAbs (0:Int)+2))) (1,a0,0,()) (LW)) fun v2=>
 some (v2.1,())
def pQ (a0:ah) (a1:Int) (a2:Int):Option (Bool×Unit):=
 bif decide (a0.2≤a1) then
  bif decide (a0.1≥0) then
   (yC a0.2).bind fun r1=>
   some (decide (a0.1≤(w64 (a2*r1.1))),())
  else
   some (false,())
 else
  some (false,())
def ng (a0:ah):Option (Int×Unit):=
 (gY a0).bind fun r1=>
 bif r1.1 != 0 then
  some (r1.1,())
 else
  (pQ a0 4 1000000000).bind fun r2=>
  bif !r2.1 then
   some (1,())
  else
   some (0,())
abbrev tM:Type:=Int×Int×Int×(List Int)×Int×Int×(List Int)×Int×Int×Bool×(List Int)×Bool×(List Int)×Bool×(List Int)×(List Int)×Unit
abbrev tK:Type:=(((bM×Unit) ⊕ (Bool×(List Int)×Bool×(List Int)×Bool×(List Int)×(List Int)×Unit)) ⊕ (Int×Int×(List Int)×Int×Int×Bool×(List Int)×Bool×(List Int)×Bool×(List Int)×(List Int)×Unit))
def HN (x1:tM) (again:tM→Option tK):Option tK:=
 match x1 with
 | (A,B,C,D,E,F,G,H,I,J,K,L,M,N,O,P,_)=>
 bif decide (I<H) then
  (idx G I).bind fun y2=>
  chk (decide (0≤(w64 (A+I)))&&decide ((w64 (A+I))<(P.length:Int))) <|
  (P[(w64 (A+I)).toNat]?).bind fun y3=>
  let n4:Int:=bH ((bH y3)+(bH ((bH B)*(bH y2))))
  chk (decide (0≤(w64 (A+I)))&&decide ((w64 (A+I))<(P.length:Int))) <|
  (P[(w64 (A+I)).toNat]?).bind fun _=>
  again (A,B,Int.fdiv (bH (C+n4)) (2 ^ 32),D,E,F,G,H,w64 (I+1),J,K,L,M,N,O,List.set P (w64 (A+I)).toNat (l8 (bH (C+n4))),())
 else
  some (.inr (A,C,D,E,F,J,K,L,M,N,O,P,()))
abbrev tL:Type:=(List Int)×Int×Int×Bool×(List Int)×Bool×(List Int)×Bool×(List Int)×(List Int)×Unit
abbrev tJ:Type:=((bM×Unit) ⊕ (Bool×(List Int)×Bool×(List Int)×Bool×(List Int)×(List Int)×Unit))
def HM (x1:tL) (again:tL→Option tJ):Option tJ:=
 match x1 with
 | (A,B,C,D,E,F,G,H,I,J,_)=>
 bif decide (C<B) then
  (idx A C).bind fun y2=>
  aL (
   iter (X:=tM) (β:=tK) (C.natAbs+(y2.natAbs+(Int.natAbs (0:Int)+(A.length+(B.natAbs+(C.natAbs+(G.length+(Int.natAbs ((G.length:Int))+(Int.natAbs (0:Int)+(E.length+(G.length+(I.length+(J.length+2))))))))))))) (C,y2,0,A,B,C,G,(G.length:Int),0,D,E,F,G,H,I,J,()) (HN)) fun (K,L,M,N,O,P,Q,R,S,T,U,V,_)=>
  chk (decide (0≤(w64 (K+((S.length:Int)))))&&decide ((w64 (K+((S.length:Int))))<(V.length:Int))) <|
  (V[(w64 (K+((S.length:Int)))).toNat]?).bind fun _=>
  again (M,N,w64 (O+1),P,Q,R,S,T,U,List.set V (w64 (K+((S.length:Int)))).toNat (l8 L),())
 else
  some (.inr (D,E,F,G,H,I,J,()))
def Cn (a0:bM) (a1:bM):Option (bM×Unit):=
 chk (decide (0≤(w64 (((a0.2.length:Int))+((a1.2.length:Int)))))&&decide ((w64 (((a0.2.length:Int))+((a1.2.length:Int))))≤(w64 (((a0.2.length:Int))+((a1.2.length:Int)))))&&decide ((4:Int)*(w64 (((a0.2.length:Int))+((a1.2.length:Int))))≤281474976710656)&&decide ((w64 (((a0.2.length:Int))+((a1.2.length:Int))))≤9223372036854775807)) <|
 aL (
  iter (X:=tL) (β:=tJ) (a0.2.length+(Int.natAbs ((a0.2.length:Int))+(Int.natAbs (0:Int)+(a0.2.length+(a1.2.length+(List.length ([]:List Int)+(List.length ((List.replicate (Int.toNat (w64 (((a0.2.length:Int))+((a1.2.length:Int))))) 0):List Int)+2))))))) (a0.2,(a0.2.length:Int),0,a0.1,a0.2,a1.1,a1.2,false,[],List.replicate (Int.toNat (w64 (((a0.2.length:Int))+((a1.2.length:Int))))) 0,()) (HM)) fun v10=>
 (iK (!(v10.1==v10.2.2.1)) v10.2.2.2.2.2.2.1).bind fun r11=>
 some (r11.1,())
abbrev yq:Type:=(List Int)×(List Int)×Int×(List Int)×Int×Int×Unit
abbrev yp:Type:=(((List Int)×Unit) ⊕ ((List Int)×Int×Unit))
def Mg (x1:yq) (again:yq→Option yp):Option yp:=
 match x1 with
 | (A,B,C,D,E,F,_)=>
 bif decide (F<E) then
  (idx D F).bind fun y2=>
  aL (γ:=((List Int)×(List Int)×Int×(List Int)×Int×Int×Unit)) (
   bif decide (F<((A.length:Int))) then
    (idx A F).bind fun y3=>
    let n4:Int:=bH ((bH (C+(bH y2)))+(bH y3))
    some (.inr (A,B,n4,D,E,F,()))
   else
    some (.inr (A,B,bH (C+(bH y2)),D,E,F,()))) fun (G,H,I,J,K,L,_)=>
  chk (decide (((H.length)+1)*4≤140737488355328)&&decide ((H.length)+1≤maxLen)) <|
  again (G,H++[(l8 I)],Int.fdiv I (2 ^ 32),J,K,w64 (L+1),())
 else
  some (.inr (B,C,()))
def I8 (a0:List Int) (a1:List Int):Option ((List Int)×Unit):=
 aL (γ:=((List Int)×(List Int)×Unit)) (
  bif decide (((a0.length:Int))<((a1.length:Int))) then
   some (.inr (a1,a0,()))
  else
   some (.inr (a0,a1,()))) fun (A,B,_)=>
 chk (decide (0≤(0:Int))&&decide ((0:Int)≤(w64 (((A.length:Int))+1)))&&decide ((4:Int)*(w64 (((A.length:Int))+1))≤281474976710656)&&decide ((w64 (((A.length:Int))+1))≤9223372036854775807)) <|
 aL (
  iter (X:=yq) (β:=yp) (B.length+(List.length ([]:List Int)+(Int.natAbs (0:Int)+(A.length+(Int.natAbs ((A.length:Int))+(Int.natAbs (0:Int)+2)))))) (B,[],0,A,(A.length:Int),0,()) (Mg)) fun (C,D,_)=>
 chk (decide (((C.length)+1)*4≤140737488355328)&&decide ((C.length)+1≤maxLen)) <|
 some (C++[(l8 D)],())
def Eb (a0:bM) (a1:bM):Option (bM×Unit):=
 bif a0.1==a1.1 then
  (I8 a0.2 a1.2).bind fun r1=>
  (iK a0.1 r1.1).bind fun r2=>
  some (r2.1,())
 else
  (ru a0.2 a1.2).bind fun r3=>
  bif decide (r3.1≥0) then
   (uo a0.2 a1.2).bind fun r4=>
   (iK a0.1 r4.1).bind fun r5=>
   some (r5.1,())
  else
   (uo a1.2 a0.2).bind fun r6=>
   (iK a1.1 r6.1).bind fun r7=>
   some (r7.1,())
end Go.Md
namespace Go.Md
open Go.Dn
abbrev qH:Ty:=(.st (.pair tI (.pair az tI)))
abbrev cg:Type:=Int×ah×Int
abbrev IZ:Ty:=(.st (.pair tI (.pair .str (.pair .str (.pair az (.pair az (.pair tI (.pair az (.pair az (.pair az az))))))))))
abbrev yu:Type:=Int×Bys×Bys×ah×ah×Int×ah×ah×ah×ah
abbrev pI:Type:=Bys×Int×Int×Int×Int×Unit
abbrev x9:Type:=((Bool×Unit) ⊕ Unit)
def ud (x1:pI) (again:pI→Option x9):Option x9:=
 match x1 with
 | (A,B,C,D,E,_)=>
 bif decide (E<D) then
  (yl A E).bind fun c2=>
  bif decide ((c2.toNat:Int)<B) then
   some (.inl (false,()))
  else
   (yl A E).bind fun c3=>
   bif decide ((c3.toNat:Int)>C) then
    some (.inl (false,()))
   else
    again (A,B,C,D,w64 (E+1),())
 else
  some (.inr ())
def CH (a0:Bys) (a1:Int) (a2:Int):Option (Bool×Unit):=
 aL (
  iter (X:=pI) (β:=x9) (a0.length+(a1.natAbs+(a2.natAbs+(Int.natAbs ((a0.length:Int))+(Int.natAbs (0:Int)+2))))) (a0,a1,a2,(a0.length:Int),0,()) (ud)) fun _=>
 some (true,())
def pJ (a0:Bys):Option (Bool×Unit):=
 bif !(a0==[]) then
  (CH a0 48 57).bind fun r1=>
  some (r1.1,())
 else
  some (false,())
def ia (a0:ah) (a1:Bool):Option (Int×Unit):=
 (gY a0).bind fun r1=>
 bif r1.1 != 0 then
  some (r1.1,())
 else
  (pQ a0 3 1000000000).bind fun r2=>
  bif !r2.1 then
   some (1,())
  else
   bif a0.1==0 then
    bif !a1 then
     some (1,())
    else
     some (0,())
   else
    some (0,())
end Go.Md
namespace Go.Md
open Go.Dn
end Go.Md
namespace Go.Md
open Go.Dn
end Go.Md
