/-
  The plain models of the functions that the law reaches, second part. No condition.
-/
import Derived.Test.YtcoofjaonlccjaaGreatDoorVm
import Derived.Lib.Bytealg
import Derived.Lib.Repeat
set_option linter.all false
namespace Go.Md
open Go.Dn
abbrev yN:Type:=Int×Int×Int×Unit
abbrev yM:Type:=((Int×Unit) ⊕ (Int×Unit))
def Pm (x1:yN) (again:yN→Option yM):Option yM:=
 bif decide (x1.2.2.1<x1.2.1) then
  again (w64 (x1.1*10),x1.2.1,w64 (x1.2.2.1+1),())
 else
  some (Sum.inr (x1.1,()))
def zi (a0:Int):Option (Int×Unit):=
 aL (β:=(Int×Unit)) (γ:=(Int×Unit)) (
  iter (X:=yN) (β:=yM) (Int.natAbs (1:Int)+(Int.natAbs a0+(Int.natAbs (0:Int)+2))) (1,a0,0,()) (Pm)) fun v2=>
 some (v2.1,())
def oA (a0:ah) (a1:Int) (a2:Int):Option (Bool×Unit):=
 bif decide (a0.2≤a1) then
  bif decide (a0.1≥0) then
   Option.bind (zi a0.2) fun r1=>
   some (decide (a0.1≤(w64 (a2*r1.1))),())
  else
   some (false,())
 else
  some (false,())
def lG (a0:ah):Option (Int×Unit):=
 Option.bind (fP a0) fun r1=>
 bif r1.1 != 0 then
  some (r1.1,())
 else
  Option.bind (oA a0 4 1000000000) fun r2=>
  bif !r2.1 then
   some (1,())
  else
   some (0,())
abbrev sV:Type:=Int×Int×Int×(List Int)×Int×Int×(List Int)×Int×Int×Bool×(List Int)×Bool×(List Int)×Bool×(List Int)×(List Int)×Unit
abbrev sS:Type:=(((bB×Unit) ⊕ (Bool×(List Int)×Bool×(List Int)×Bool×(List Int)×(List Int)×Unit)) ⊕ (Int×Int×(List Int)×Int×Int×Bool×(List Int)×Bool×(List Int)×Bool×(List Int)×(List Int)×Unit))
def Kz (x1:sV) (again:sV→Option sS):Option sS:=
 match x1 with
 | (A,B,C,D,E,F,G,H,I,J,K,L,M,N,O,P,_)=>
 bif decide (I<H) then
  Option.bind (idx G I) fun y2=>
  chk (decide (0≤(w64 (A+I)))&&decide ((w64 (A+I))<(P.length:Int))) <|
  Option.bind (P[(w64 (A+I)).toNat]?) fun y3=>
  let n4:Int:=bT ((bT y3)+(bT ((bT B)*(bT y2))))
  chk (decide (0≤(w64 (A+I)))&&decide ((w64 (A+I))<(P.length:Int))) <|
  Option.bind (P[(w64 (A+I)).toNat]?) fun _=>
  again (A,B,Int.fdiv (bT (C+n4)) (2 ^ 32),D,E,F,G,H,w64 (I+1),J,K,L,M,N,O,List.set P (w64 (A+I)).toNat (kD (bT (C+n4))),())
 else
  some (Sum.inr (A,C,D,E,F,J,K,L,M,N,O,P,()))
abbrev sU:Type:=(List Int)×Int×Int×Bool×(List Int)×Bool×(List Int)×Bool×(List Int)×(List Int)×Unit
abbrev sR:Type:=((bB×Unit) ⊕ (Bool×(List Int)×Bool×(List Int)×Bool×(List Int)×(List Int)×Unit))
def Ky (x1:sU) (again:sU→Option sR):Option sR:=
 match x1 with
 | (A,B,C,D,E,F,G,H,I,J,_)=>
 bif decide (C<B) then
  Option.bind (idx A C) fun y2=>
  aL (β:=((bB×Unit) ⊕ (Bool×(List Int)×Bool×(List Int)×Bool×(List Int)×(List Int)×Unit))) (γ:=(Int×Int×(List Int)×Int×Int×Bool×(List Int)×Bool×(List Int)×Bool×(List Int)×(List Int)×Unit)) (
   iter (X:=sV) (β:=sS) (C.natAbs+(Int.natAbs y2+(Int.natAbs (0:Int)+(A.length+(B.natAbs+(C.natAbs+(G.length+(Int.natAbs ((G.length:Int))+(Int.natAbs (0:Int)+(E.length+(G.length+(I.length+(J.length+2))))))))))))) (C,y2,0,A,B,C,G,(G.length:Int),0,D,E,F,G,H,I,J,()) (Kz)) fun v3=>
  chk (decide (0≤(w64 (v3.1+((v3.2.2.2.2.2.2.2.2.1.length:Int)))))&&decide ((w64 (v3.1+((v3.2.2.2.2.2.2.2.2.1.length:Int))))<(v3.2.2.2.2.2.2.2.2.2.2.2.1.length:Int))) <|
  Option.bind (v3.2.2.2.2.2.2.2.2.2.2.2.1[(w64 (v3.1+((v3.2.2.2.2.2.2.2.2.1.length:Int)))).toNat]?) fun _=>
  again (v3.2.2.1,v3.2.2.2.1,w64 (v3.2.2.2.2.1+1),v3.2.2.2.2.2.1,v3.2.2.2.2.2.2.1,v3.2.2.2.2.2.2.2.1,v3.2.2.2.2.2.2.2.2.1,v3.2.2.2.2.2.2.2.2.2.1,v3.2.2.2.2.2.2.2.2.2.2.1,List.set v3.2.2.2.2.2.2.2.2.2.2.2.1 (w64 (v3.1+((v3.2.2.2.2.2.2.2.2.1.length:Int)))).toNat (kD v3.2.1),())
 else
  some (Sum.inr (D,E,F,G,H,I,J,()))
def Ee (a0:bB) (a1:bB):Option (bB×Unit):=
 chk (decide (0≤(w64 (((a0.2.length:Int))+((a1.2.length:Int)))))&&decide ((w64 (((a0.2.length:Int))+((a1.2.length:Int))))≤(w64 (((a0.2.length:Int))+((a1.2.length:Int)))))&&decide ((4:Int)*(w64 (((a0.2.length:Int))+((a1.2.length:Int))))≤281474976710656)&&decide ((w64 (((a0.2.length:Int))+((a1.2.length:Int))))≤9223372036854775807)) <|
 aL (β:=(bB×Unit)) (γ:=(Bool×(List Int)×Bool×(List Int)×Bool×(List Int)×(List Int)×Unit)) (
  iter (X:=sU) (β:=sR) (a0.2.length+(Int.natAbs ((a0.2.length:Int))+(Int.natAbs (0:Int)+(a0.2.length+(a1.2.length+(List.length ([]:List Int)+(List.length ((List.replicate (Int.toNat (w64 (((a0.2.length:Int))+((a1.2.length:Int))))) 0):List Int)+2))))))) (a0.2,(a0.2.length:Int),0,a0.1,a0.2,a1.1,a1.2,false,[],List.replicate (Int.toNat (w64 (((a0.2.length:Int))+((a1.2.length:Int))))) 0,()) (Ky)) fun v10=>
 Option.bind (gy (!(v10.1==v10.2.2.1)) v10.2.2.2.2.2.2.1) fun r11=>
 some (r11.1,())
abbrev yZ:Type:=(List Int)×(List Int)×Int×(List Int)×Int×Int×Unit
abbrev yY:Type:=(((List Int)×Unit) ⊕ ((List Int)×Int×Unit))
def PO (x1:yZ) (again:yZ→Option yY):Option yY:=
 match x1 with
 | (A,B,C,D,E,F,_)=>
 bif decide (F<E) then
  Option.bind (idx D F) fun y2=>
  aL (β:=(((List Int)×Unit) ⊕ ((List Int)×Int×Unit))) (γ:=((List Int)×(List Int)×Int×(List Int)×Int×Int×Unit)) (
   bif decide (F<((A.length:Int))) then
    Option.bind (idx A F) fun y3=>
    let n4:Int:=bT ((bT (C+(bT y2)))+(bT y3))
    some (Sum.inr (A,B,n4,D,E,F,()))
   else
    some (Sum.inr (A,B,bT (C+(bT y2)),D,E,F,()))) fun v5=>
  chk (decide (((v5.2.1.length)+1)*4≤140737488355328)&&decide ((v5.2.1.length)+1≤maxLen)) <|
  again (v5.1,v5.2.1++[(kD v5.2.2.1)],Int.fdiv v5.2.2.1 (2 ^ 32),v5.2.2.2.1,v5.2.2.2.2.1,w64 (v5.2.2.2.2.2.1+1),())
 else
  some (Sum.inr (B,C,()))
def L9 (a0:List Int) (a1:List Int):Option ((List Int)×Unit):=
 aL (β:=((List Int)×Unit)) (γ:=((List Int)×(List Int)×Unit)) (
  bif decide (((List.length a0:Int))<((List.length a1:Int))) then
   some (Sum.inr (a1,a0,()))
  else
   some (Sum.inr (a0,a1,()))) fun v1=>
 chk (decide (0≤(0:Int))&&decide ((0:Int)≤(w64 (((v1.1.length:Int))+1)))&&decide ((4:Int)*(w64 (((v1.1.length:Int))+1))≤281474976710656)&&decide ((w64 (((v1.1.length:Int))+1))≤9223372036854775807)) <|
 aL (β:=((List Int)×Unit)) (γ:=((List Int)×Int×Unit)) (
  iter (X:=yZ) (β:=yY) (v1.2.1.length+(List.length ([]:List Int)+(Int.natAbs (0:Int)+(v1.1.length+(Int.natAbs ((v1.1.length:Int))+(Int.natAbs (0:Int)+2)))))) (v1.2.1,[],0,v1.1,(v1.1.length:Int),0,()) (PO)) fun v7=>
 chk (decide (((v7.1.length)+1)*4≤140737488355328)&&decide ((v7.1.length)+1≤maxLen)) <|
 some (v7.1++[(kD v7.2.1)],())
def Gk (a0:bB) (a1:bB):Option (bB×Unit):=
 bif a0.1==a1.1 then
  Option.bind (L9 a0.2 a1.2) fun r1=>
  Option.bind (gy a0.1 r1.1) fun r2=>
  some (r2.1,())
 else
  Option.bind (qy a0.2 a1.2) fun r3=>
  bif decide (r3.1≥0) then
   Option.bind (tv a0.2 a1.2) fun r4=>
   Option.bind (gy a0.1 r4.1) fun r5=>
   some (r5.1,())
  else
   Option.bind (tv a1.2 a0.2) fun r6=>
   Option.bind (gy a1.1 r6.1) fun r7=>
   some (r7.1,())
end Go.Md
namespace Go.Md
open Go.Dn
abbrev nN:Ty:=(.st (.pair tI (.pair .str (.pair .str (.pair au (.pair au (.pair tI (.pair au (.pair au (.pair au au))))))))))
abbrev fU:Type:=Int×(List UInt8)×(List UInt8)×ah×ah×Int×ah×ah×ah×ah
abbrev og:Type:=(List UInt8)×Int×Int×Int×Int×Unit
abbrev yH:Type:=((Bool×Unit) ⊕ Unit)
def s8 (x1:og) (again:og→Option yH):Option yH:=
 match x1 with
 | (A,B,C,D,E,_)=>
 bif decide (E<D) then
  Option.bind (sG A E) fun c2=>
  bif decide ((c2.toNat:Int)<B) then
   some (Sum.inl (false,()))
  else
   Option.bind (sG A E) fun c3=>
   bif decide ((c3.toNat:Int)>C) then
    some (Sum.inl (false,()))
   else
    again (A,B,C,D,w64 (E+1),())
 else
  some (Sum.inr ())
def Ez (a0:List UInt8) (a1:Int) (a2:Int):Option (Bool×Unit):=
 aL (β:=(Bool×Unit)) (γ:=Unit) (
  iter (X:=og) (β:=yH) (List.length a0+(Int.natAbs a1+(Int.natAbs a2+(Int.natAbs ((List.length a0:Int))+(Int.natAbs (0:Int)+2))))) (a0,a1,a2,(List.length a0:Int),0,()) (s8)) fun _=>
 some (true,())
def om (a0:List UInt8):Option (Bool×Unit):=
 bif !(a0==[]) then
  Option.bind (Ez a0 48 57) fun r1=>
  some (r1.1,())
 else
  some (false,())
def iQ (a0:ah) (a1:Bool):Option (Int×Unit):=
 Option.bind (fP a0) fun r1=>
 bif r1.1 != 0 then
  some (r1.1,())
 else
  Option.bind (oA a0 3 1000000000) fun r2=>
  bif !r2.1 then
   some (1,())
  else
   bif a0.1==0 then
    bif !a1 then
     some (1,())
    else
     some (0,())
   else
    some (0,())
end Go.Md
namespace Go.Md
open Go.Dn
end Go.Md
namespace Go.Md
open Go.Dn
end Go.Md
