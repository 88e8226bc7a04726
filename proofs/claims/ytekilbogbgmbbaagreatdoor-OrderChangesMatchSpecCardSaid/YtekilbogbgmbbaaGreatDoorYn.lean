/-
  The plain models of the functions that the law reaches, second part. No condition.
-/
import Derived.Test.YtekilbogbgmbbaaGreatDoorYm
import Derived.Lib.Bytealg
import Derived.Lib.Repeat
import Derived.Lib.ItoaNum
namespace Go.Md
open Go.Dn
abbrev xX:Type:=Int×Int×Int×Unit
abbrev xW:Type:=((Int×Unit) ⊕ (Int×Unit))
def Py (x1:xX) (again:xX->Option xW):Option xW:=
 bif decide (x1.2.2.1<x1.2.1) then
  again (w64 (x1.1*10),x1.2.1,w64 (x1.2.2.1+1),())
 else
  some (.inr (x1.1,()))
def yA (a0:Int):Option (Int×Unit):=
 aC (
  iter (X:=xX) (β:=xW) (Int.natAbs (1:Int)+(a0.natAbs+(Int.natAbs (0:Int)+2))) (1,a0,0,()) (Py)) fun v2=>
 some (v2.1,())
def oo (a0:ah) (a1:Int) (a2:Int):Option (Bool×Unit):=
 bif decide (a0.2<=a1) then
  bif decide (a0.1>=0) then
   (yA a0.2).bind fun r1=>
   some (decide (a0.1<=(w64 (a2*r1.1))),())
  else
   some (false,())
 else
  some (false,())
def lz (a0:ah):Option (Int×Unit):=
 (gj a0).bind fun r1=>
 bif r1.1 != 0 then
  some (r1.1,())
 else
  (oo a0 4 1000000000).bind fun r2=>
  bif !r2.1 then
   some (1,())
  else
   some (0,())
abbrev sw:Type:=Int×Int×Int×(List Int)×Int×Int×(List Int)×Int×Int×Bool×(List Int)×Bool×(List Int)×Bool×(List Int)×(List Int)×Unit
abbrev sr:Type:=(((cq×Unit) ⊕ (Bool×(List Int)×Bool×(List Int)×Bool×(List Int)×(List Int)×Unit)) ⊕ (Int×Int×(List Int)×Int×Int×Bool×(List Int)×Bool×(List Int)×Bool×(List Int)×(List Int)×Unit))
def Jy (x1:sw) (again:sw->Option sr):Option sr:=
 match x1 with
 | (A,B,C,D,E,F,G,H,I,J,K,L,M,N,O,P,_)=>
 bif decide (I<H) then
  (idx G I).bind fun y2=>
  chk (decide (0<=(w64 (A+I)))&&decide ((w64 (A+I))<(P.length:Int))) <|
  (P[(w64 (A+I)).toNat]?).bind fun y3=>
  let n4:Int:=cy ((cy y3)+(cy ((cy B)*(cy y2))))
  chk (decide (0<=(w64 (A+I)))&&decide ((w64 (A+I))<(P.length:Int))) <|
  (P[(w64 (A+I)).toNat]?).bind fun _=>
  again (A,B,Int.fdiv (cy (C+n4)) (2 ^ 32),D,E,F,G,H,w64 (I+1),J,K,L,M,N,O,List.set P (w64 (A+I)).toNat (kj (cy (C+n4))),())
 else
  some (.inr (A,C,D,E,F,J,K,L,M,N,O,P,()))
abbrev su:Type:=(List Int)×Int×Int×Bool×(List Int)×Bool×(List Int)×Bool×(List Int)×(List Int)×Unit
abbrev sj:Type:=((cq×Unit) ⊕ (Bool×(List Int)×Bool×(List Int)×Bool×(List Int)×(List Int)×Unit))
def Jx (x1:su) (again:su->Option sj):Option sj:=
 match x1 with
 | (A,B,C,D,E,F,G,H,I,J,_)=>
 bif decide (C<B) then
  (idx A C).bind fun y2=>
  aC (
   iter (X:=sw) (β:=sr) (C.natAbs+(y2.natAbs+(Int.natAbs (0:Int)+(A.length+(B.natAbs+(C.natAbs+(G.length+(Int.natAbs ((G.length:Int))+(Int.natAbs (0:Int)+(E.length+(G.length+(I.length+(J.length+2))))))))))))) (C,y2,0,A,B,C,G,(G.length:Int),0,D,E,F,G,H,I,J,()) (Jy)) fun (K,L,M,N,O,P,Q,R,S,T,U,V,_)=>
  chk (decide (0<=(w64 (K+((S.length:Int)))))&&decide ((w64 (K+((S.length:Int))))<(V.length:Int))) <|
  (V[(w64 (K+((S.length:Int)))).toNat]?).bind fun _=>
  again (M,N,w64 (O+1),P,Q,R,S,T,U,List.set V (w64 (K+((S.length:Int)))).toNat (kj L),())
 else
  some (.inr (D,E,F,G,H,I,J,()))
def Df (a0:cq) (a1:cq):Option (cq×Unit):=
 chk (decide (0<=(w64 (((a0.2.length:Int))+((a1.2.length:Int)))))&&decide ((w64 (((a0.2.length:Int))+((a1.2.length:Int))))<=(w64 (((a0.2.length:Int))+((a1.2.length:Int)))))&&decide ((4:Int)*(w64 (((a0.2.length:Int))+((a1.2.length:Int))))<=281474976710656)&&decide ((w64 (((a0.2.length:Int))+((a1.2.length:Int))))<=9223372036854775807)) <|
 aC (
  iter (X:=su) (β:=sj) (a0.2.length+(Int.natAbs ((a0.2.length:Int))+(Int.natAbs (0:Int)+(a0.2.length+(a1.2.length+(List.length ([]:List Int)+(List.length ((List.replicate (Int.toNat (w64 (((a0.2.length:Int))+((a1.2.length:Int))))) 0):List Int)+2))))))) (a0.2,(a0.2.length:Int),0,a0.1,a0.2,a1.1,a1.2,false,[],List.replicate (Int.toNat (w64 (((a0.2.length:Int))+((a1.2.length:Int))))) 0,()) (Jx)) fun v10=>
 (gG (!(v10.1==v10.2.2.1)) v10.2.2.2.2.2.2.1).bind fun r11=>
 some (r11.1,())
abbrev ym:Type:=(List Int)×(List Int)×Int×(List Int)×Int×Int×Unit
abbrev yl:Type:=(((List Int)×Unit) ⊕ ((List Int)×Int×Unit))
def P6 (x1:ym) (again:ym->Option yl):Option yl:=
 match x1 with
 | (A,B,C,D,E,F,_)=>
 bif decide (F<E) then
  (idx D F).bind fun y2=>
  aC (γ:=((List Int)×(List Int)×Int×(List Int)×Int×Int×Unit)) (
   bif decide (F<((A.length:Int))) then
    (idx A F).bind fun y3=>
    let n4:Int:=cy ((cy (C+(cy y2)))+(cy y3))
    some (.inr (A,B,n4,D,E,F,()))
   else
    some (.inr (A,B,cy (C+(cy y2)),D,E,F,()))) fun (G,H,I,J,K,L,_)=>
  chk (decide (((H.length)+1)*4<=140737488355328)&&decide ((H.length)+1<=maxLen)) <|
  again (G,H++[(kj I)],Int.fdiv I (2 ^ 32),J,K,w64 (L+1),())
 else
  some (.inr (B,C,()))
def Lo (a0:List Int) (a1:List Int):Option ((List Int)×Unit):=
 aC (γ:=((List Int)×(List Int)×Unit)) (
  bif decide (((a0.length:Int))<((a1.length:Int))) then
   some (.inr (a1,a0,()))
  else
   some (.inr (a0,a1,()))) fun (A,B,_)=>
 chk (decide (0<=(0:Int))&&decide ((0:Int)<=(w64 (((A.length:Int))+1)))&&decide ((4:Int)*(w64 (((A.length:Int))+1))<=281474976710656)&&decide ((w64 (((A.length:Int))+1))<=9223372036854775807)) <|
 aC (
  iter (X:=ym) (β:=yl) (B.length+(List.length ([]:List Int)+(Int.natAbs (0:Int)+(A.length+(Int.natAbs ((A.length:Int))+(Int.natAbs (0:Int)+2)))))) (B,[],0,A,(A.length:Int),0,()) (P6)) fun (C,D,_)=>
 chk (decide (((C.length)+1)*4<=140737488355328)&&decide ((C.length)+1<=maxLen)) <|
 some (C++[(kj D)],())
def Fa (a0:cq) (a1:cq):Option (cq×Unit):=
 bif a0.1==a1.1 then
  (Lo a0.2 a1.2).bind fun r1=>
  (gG a0.1 r1.1).bind fun r2=>
  some (r2.1,())
 else
  (p9 a0.2 a1.2).bind fun r3=>
  bif decide (r3.1>=0) then
   (tc a0.2 a1.2).bind fun r4=>
   (gG a0.1 r4.1).bind fun r5=>
   some (r5.1,())
  else
   (tc a1.2 a0.2).bind fun r6=>
   (gG a1.1 r6.1).bind fun r7=>
   some (r7.1,())
end Go.Md
namespace Go.Md
open Go.Dn
abbrev gC:Ty:=(.st (.pair tI (.pair .str (.pair .str (.pair au (.pair au (.pair tI (.pair au (.pair au (.pair au au))))))))))
abbrev dD:Type:=Int×Bys×Bys×ah×ah×Int×ah×ah×ah×ah
abbrev nY:Type:=Bys×Int×Int×Int×Int×Unit
abbrev xT:Type:=((Bool×Unit) ⊕ Unit)
def sL (x1:nY) (again:nY->Option xT):Option xT:=
 match x1 with
 | (A,B,C,D,E,_)=>
 bif decide (E<D) then
  (qv A E).bind fun c2=>
  bif decide ((c2.toNat:Int)<B) then
   some (.inl (false,()))
  else
   (qv A E).bind fun c3=>
   bif decide ((c3.toNat:Int)>C) then
    some (.inl (false,()))
   else
    again (A,B,C,D,w64 (E+1),())
 else
  some (.inr ())
def DK (a0:Bys) (a1:Int) (a2:Int):Option (Bool×Unit):=
 aC (
  iter (X:=nY) (β:=xT) (a0.length+(a1.natAbs+(a2.natAbs+(Int.natAbs ((a0.length:Int))+(Int.natAbs (0:Int)+2))))) (a0,a1,a2,(a0.length:Int),0,()) (sL)) fun _=>
 some (true,())
def nZ (a0:Bys):Option (Bool×Unit):=
 bif !(a0==[]) then
  (DK a0 48 57).bind fun r1=>
  some (r1.1,())
 else
  some (false,())
def iV (a0:ah) (a1:Bool):Option (Int×Unit):=
 (gj a0).bind fun r1=>
 bif r1.1 != 0 then
  some (r1.1,())
 else
  (oo a0 3 1000000000).bind fun r2=>
  bif !r2.1 then
   some (1,())
  else
   bif a0.1==0 then
    bif !a1 then
     some (1,())
    else
     some (0,())
   else
    some (0,())
end Go.Md
namespace Go.Md
open Go.Dn
end Go.Md
namespace Go.Md
open Go.Dn
end Go.Md
