/-
  The plain models of the functions that the law reaches, second part. No condition.
-/
import Derived.Test.YtcndcnfjdanbeaaGreatDoorXm
import Derived.Lib.Bytealg
import Derived.Lib.Repeat
set_option linter.all false
namespace Go.Md
open Go.Dn
abbrev Cm:Type:=Int×Int×Int×Unit
abbrev Cl:Type:=((Int×Unit) ⊕ (Int×Unit))
def VD (x1:Cm) (again:Cm→Option Cl):Option Cl:=
 bif decide (x1.2.2.1<x1.2.1) then
  again (w64 (x1.1*10),x1.2.1,w64 (x1.2.2.1+1),())
 else
  some (.inr (x1.1,()))
def CH (a0:Int):Option (Int×Unit):=
 aI (
  iter (X:=Cm) (β:=Cl) (Int.natAbs (1:Int)+(a0.natAbs+(Int.natAbs (0:Int)+2))) (1,a0,0,()) (VD)) fun v2=>
 some (v2.1,())
def rL (a0:ah) (a1:Int) (a2:Int):Option (Bool×Unit):=
 bif decide (a0.2≤a1) then
  bif decide (a0.1≥0) then
   (CH a0.2).bind fun r1=>
   some (decide (a0.1≤(w64 (a2*r1.1))),())
  else
   some (false,())
 else
  some (false,())
def nY (a0:ah):Option (Int×Unit):=
 (iD a0).bind fun r1=>
 bif r1.1 != 0 then
  some (r1.1,())
 else
  (rL a0 4 1000000000).bind fun r2=>
  bif !r2.1 then
   some (1,())
  else
   some (0,())
abbrev wE:Type:=Int×Int×Int×(List Int)×Int×Int×(List Int)×Int×Int×Bool×(List Int)×Bool×(List Int)×Bool×(List Int)×(List Int)×Unit
abbrev wC:Type:=(((cq×Unit) ⊕ (Bool×(List Int)×Bool×(List Int)×Bool×(List Int)×(List Int)×Unit)) ⊕ (Int×Int×(List Int)×Int×Int×Bool×(List Int)×Bool×(List Int)×Bool×(List Int)×(List Int)×Unit))
def PI (x1:wE) (again:wE→Option wC):Option wC:=
 match x1 with
 | (A,B,C,D,E,F,G,H,I,J,K,L,M,N,O,P,_)=>
 bif decide (I<H) then
  (idx G I).bind fun y2=>
  chk (decide (0≤(w64 (A+I)))&&decide ((w64 (A+I))<(P.length:Int))) <|
  (P[(w64 (A+I)).toNat]?).bind fun y3=>
  let n4:Int:=b9 ((b9 y3)+(b9 ((b9 B)*(b9 y2))))
  chk (decide (0≤(w64 (A+I)))&&decide ((w64 (A+I))<(P.length:Int))) <|
  (P[(w64 (A+I)).toNat]?).bind fun _=>
  again (A,B,Int.fdiv (b9 (C+n4)) (2 ^ 32),D,E,F,G,H,w64 (I+1),J,K,L,M,N,O,List.set P (w64 (A+I)).toNat (mQ (b9 (C+n4))),())
 else
  some (.inr (A,C,D,E,F,J,K,L,M,N,O,P,()))
abbrev wD:Type:=(List Int)×Int×Int×Bool×(List Int)×Bool×(List Int)×Bool×(List Int)×(List Int)×Unit
abbrev wB:Type:=((cq×Unit) ⊕ (Bool×(List Int)×Bool×(List Int)×Bool×(List Int)×(List Int)×Unit))
def PG (x1:wD) (again:wD→Option wB):Option wB:=
 match x1 with
 | (A,B,C,D,E,F,G,H,I,J,_)=>
 bif decide (C<B) then
  (idx A C).bind fun y2=>
  aI (
   iter (X:=wE) (β:=wC) (C.natAbs+(y2.natAbs+(Int.natAbs (0:Int)+(A.length+(B.natAbs+(C.natAbs+(G.length+(Int.natAbs ((G.length:Int))+(Int.natAbs (0:Int)+(E.length+(G.length+(I.length+(J.length+2))))))))))))) (C,y2,0,A,B,C,G,(G.length:Int),0,D,E,F,G,H,I,J,()) (PI)) fun (K,L,M,N,O,P,Q,R,S,T,U,V,_)=>
  chk (decide (0≤(w64 (K+((S.length:Int)))))&&decide ((w64 (K+((S.length:Int))))<(V.length:Int))) <|
  (V[(w64 (K+((S.length:Int)))).toNat]?).bind fun _=>
  again (M,N,w64 (O+1),P,Q,R,S,T,U,List.set V (w64 (K+((S.length:Int)))).toNat (mQ L),())
 else
  some (.inr (D,E,F,G,H,I,J,()))
def IM (a0:cq) (a1:cq):Option (cq×Unit):=
 chk (decide (0≤(w64 (((a0.2.length:Int))+((a1.2.length:Int)))))&&decide ((w64 (((a0.2.length:Int))+((a1.2.length:Int))))≤(w64 (((a0.2.length:Int))+((a1.2.length:Int)))))&&decide ((4:Int)*(w64 (((a0.2.length:Int))+((a1.2.length:Int))))≤281474976710656)&&decide ((w64 (((a0.2.length:Int))+((a1.2.length:Int))))≤9223372036854775807)) <|
 aI (
  iter (X:=wD) (β:=wB) (a0.2.length+(Int.natAbs ((a0.2.length:Int))+(Int.natAbs (0:Int)+(a0.2.length+(a1.2.length+(List.length ([]:List Int)+(List.length ((List.replicate (Int.toNat (w64 (((a0.2.length:Int))+((a1.2.length:Int))))) 0):List Int)+2))))))) (a0.2,(a0.2.length:Int),0,a0.1,a0.2,a1.1,a1.2,false,[],List.replicate (Int.toNat (w64 (((a0.2.length:Int))+((a1.2.length:Int))))) 0,()) (PG)) fun v10=>
 (jb (!(v10.1==v10.2.2.1)) v10.2.2.2.2.2.2.1).bind fun r11=>
 some (r11.1,())
abbrev Cy:Type:=(List Int)×(List Int)×Int×(List Int)×Int×Int×Unit
abbrev Cw:Type:=(((List Int)×Unit) ⊕ ((List Int)×Int×Unit))
def V9 (x1:Cy) (again:Cy→Option Cw):Option Cw:=
 match x1 with
 | (A,B,C,D,E,F,_)=>
 bif decide (F<E) then
  (idx D F).bind fun y2=>
  aI (γ:=((List Int)×(List Int)×Int×(List Int)×Int×Int×Unit)) (
   bif decide (F<((A.length:Int))) then
    (idx A F).bind fun y3=>
    let n4:Int:=b9 ((b9 (C+(b9 y2)))+(b9 y3))
    some (.inr (A,B,n4,D,E,F,()))
   else
    some (.inr (A,B,b9 (C+(b9 y2)),D,E,F,()))) fun (G,H,I,J,K,L,_)=>
  chk (decide (((H.length)+1)*4≤140737488355328)&&decide ((H.length)+1≤maxLen)) <|
  again (G,H++[(mQ I)],Int.fdiv I (2 ^ 32),J,K,w64 (L+1),())
 else
  some (.inr (B,C,()))
def RG (a0:List Int) (a1:List Int):Option ((List Int)×Unit):=
 aI (γ:=((List Int)×(List Int)×Unit)) (
  bif decide (((a0.length:Int))<((a1.length:Int))) then
   some (.inr (a1,a0,()))
  else
   some (.inr (a0,a1,()))) fun (A,B,_)=>
 chk (decide (0≤(0:Int))&&decide ((0:Int)≤(w64 (((A.length:Int))+1)))&&decide ((4:Int)*(w64 (((A.length:Int))+1))≤281474976710656)&&decide ((w64 (((A.length:Int))+1))≤9223372036854775807)) <|
 aI (
  iter (X:=Cy) (β:=Cw) (B.length+(List.length ([]:List Int)+(Int.natAbs (0:Int)+(A.length+(Int.natAbs ((A.length:Int))+(Int.natAbs (0:Int)+2)))))) (B,[],0,A,(A.length:Int),0,()) (V9)) fun (C,D,_)=>
 chk (decide (((C.length)+1)*4≤140737488355328)&&decide ((C.length)+1≤maxLen)) <|
 some (C++[(mQ D)],())
def K6 (a0:cq) (a1:cq):Option (cq×Unit):=
 bif a0.1==a1.1 then
  (RG a0.2 a1.2).bind fun r1=>
  (jb a0.1 r1.1).bind fun r2=>
  some (r2.1,())
 else
  (tY a0.2 a1.2).bind fun r3=>
  bif decide (r3.1≥0) then
   (xk a0.2 a1.2).bind fun r4=>
   (jb a0.1 r4.1).bind fun r5=>
   some (r5.1,())
  else
   (xk a1.2 a0.2).bind fun r6=>
   (jb a1.1 r6.1).bind fun r7=>
   some (r7.1,())
end Go.Md
namespace Go.Md
open Go.Dn
abbrev lE:Ty:=(.st (.pair tI (.pair ax tI)))
abbrev fO:Type:=Int×ah×Int
abbrev ck:Ty:=(.st (.pair tI (.pair .str (.pair .str (.pair ax (.pair ax (.pair tI (.pair ax (.pair ax (.pair ax ax))))))))))
abbrev bn:Type:=Int×Bys×Bys×ah×ah×Int×ah×ah×ah×ah
abbrev ry:Type:=Bys×Int×Int×Int×Int×Unit
abbrev Cc:Type:=((Bool×Unit) ⊕ Unit)
def wQ (x1:ry) (again:ry→Option Cc):Option Cc:=
 match x1 with
 | (A,B,C,D,E,_)=>
 bif decide (E<D) then
  (vV A E).bind fun c2=>
  bif decide ((c2.toNat:Int)<B) then
   some (.inl (false,()))
  else
   (vV A E).bind fun c3=>
   bif decide ((c3.toNat:Int)>C) then
    some (.inl (false,()))
   else
    again (A,B,C,D,w64 (E+1),())
 else
  some (.inr ())
def Jf (a0:Bys) (a1:Int) (a2:Int):Option (Bool×Unit):=
 aI (
  iter (X:=ry) (β:=Cc) (a0.length+(a1.natAbs+(a2.natAbs+(Int.natAbs ((a0.length:Int))+(Int.natAbs (0:Int)+2))))) (a0,a1,a2,(a0.length:Int),0,()) (wQ)) fun _=>
 some (true,())
def rA (a0:Bys):Option (Bool×Unit):=
 bif !(a0==[]) then
  (Jf a0 48 57).bind fun r1=>
  some (r1.1,())
 else
  some (false,())
def kK (a0:ah) (a1:Bool):Option (Int×Unit):=
 (iD a0).bind fun r1=>
 bif r1.1 != 0 then
  some (r1.1,())
 else
  (rL a0 3 1000000000).bind fun r2=>
  bif !r2.1 then
   some (1,())
  else
   bif a0.1==0 then
    bif !a1 then
     some (1,())
    else
     some (0,())
   else
    some (0,())
end Go.Md
namespace Go.Md
open Go.Dn
end Go.Md
namespace Go.Md
open Go.Dn
end Go.Md
