/-
  The plain models of the functions that the law reaches, second part. No condition.
-/
import Derived.Test.YtcndcnfjdanbeaaGreatDoorVm
import Derived.Lib.Bytealg
import Derived.Lib.Repeat
set_option linter.all false
namespace Go.Md
open Go.Dn
abbrev AX:Type:=Int×Int×Int×Unit
abbrev AW:Type:=((Int×Unit) ⊕ (Int×Unit))
def Sq (x1:AX) (again:AX→Option AW):Option AW:=
 bif decide (x1.2.2.1<x1.2.1) then
  again (w64 (x1.1*10),x1.2.1,w64 (x1.2.2.1+1),())
 else
  some (Sum.inr (x1.1,()))
def Bp (a0:Int):Option (Int×Unit):=
 aJ (β:=(Int×Unit)) (γ:=(Int×Unit)) (
  iter (X:=AX) (β:=AW) (Int.natAbs (1:Int)+(Int.natAbs a0+(Int.natAbs (0:Int)+2))) (1,a0,0,()) (Sq)) fun v2=>
 some (v2.1,())
def p7 (a0:aa) (a1:Int) (a2:Int):Option (Bool×Unit):=
 bif decide (a0.2≤a1) then
  bif decide (a0.1≥0) then
   Option.bind (Bp a0.2) fun r1=>
   some (decide (a0.1≤(w64 (a2*r1.1))),())
  else
   some (false,())
 else
  some (false,())
def mL (a0:aa):Option (Int×Unit):=
 Option.bind (eP a0) fun r1=>
 bif r1.1 != 0 then
  some (r1.1,())
 else
  Option.bind (p7 a0 4 1000000000) fun r2=>
  bif !r2.1 then
   some (1,())
  else
   some (0,())
abbrev kE:Type:=Int×Int×Int×(List Int)×Int×Int×(List Int)×Int×Int×Bool×(List Int)×Bool×(List Int)×Bool×(List Int)×(List Int)×Unit
abbrev uN:Type:=(((bu×Unit) ⊕ (Bool×(List Int)×Bool×(List Int)×Bool×(List Int)×(List Int)×Unit)) ⊕ (Int×Int×(List Int)×Int×Int×Bool×(List Int)×Bool×(List Int)×Bool×(List Int)×(List Int)×Unit))
def oM (x1:kE) (again:kE→Option uN):Option uN:=
 match x1 with
 | (A,B,C,D,E,F,G,H,I,J,K,L,M,N,O,P,_)=>
 bif decide (I<H) then
  Option.bind (idx G I) fun y2=>
  chk (decide (0≤(w64 (A+I)))&&decide ((w64 (A+I))<(P.length:Int))) <|
  Option.bind (P[(w64 (A+I)).toNat]?) fun y3=>
  let n4:Int:=bY ((bY y3)+(bY ((bY B)*(bY y2))))
  chk (decide (0≤(w64 (A+I)))&&decide ((w64 (A+I))<(P.length:Int))) <|
  Option.bind (P[(w64 (A+I)).toNat]?) fun _=>
  again (A,B,Int.fdiv (bY (C+n4)) (2 ^ 32),D,E,F,G,H,w64 (I+1),J,K,L,M,N,O,List.set P (w64 (A+I)).toNat (lB (bY (C+n4))),())
 else
  some (Sum.inr (A,C,D,E,F,J,K,L,M,N,O,P,()))
abbrev kD:Type:=(List Int)×Int×Int×Bool×(List Int)×Bool×(List Int)×Bool×(List Int)×(List Int)×Unit
abbrev uM:Type:=((bu×Unit) ⊕ (Bool×(List Int)×Bool×(List Int)×Bool×(List Int)×(List Int)×Unit))
def oL (x1:kD) (again:kD→Option uM):Option uM:=
 match x1 with
 | (A,B,C,D,E,F,G,H,I,J,_)=>
 bif decide (C<B) then
  Option.bind (idx A C) fun y2=>
  aJ (β:=((bu×Unit) ⊕ (Bool×(List Int)×Bool×(List Int)×Bool×(List Int)×(List Int)×Unit))) (γ:=(Int×Int×(List Int)×Int×Int×Bool×(List Int)×Bool×(List Int)×Bool×(List Int)×(List Int)×Unit)) (
   iter (X:=kE) (β:=uN) (C.natAbs+(Int.natAbs y2+(Int.natAbs (0:Int)+(A.length+(B.natAbs+(C.natAbs+(G.length+(Int.natAbs ((G.length:Int))+(Int.natAbs (0:Int)+(E.length+(G.length+(I.length+(J.length+2))))))))))))) (C,y2,0,A,B,C,G,(G.length:Int),0,D,E,F,G,H,I,J,()) (oM)) fun v3=>
  chk (decide (0≤(w64 (v3.1+((v3.2.2.2.2.2.2.2.2.1.length:Int)))))&&decide ((w64 (v3.1+((v3.2.2.2.2.2.2.2.2.1.length:Int))))<(v3.2.2.2.2.2.2.2.2.2.2.2.1.length:Int))) <|
  Option.bind (v3.2.2.2.2.2.2.2.2.2.2.2.1[(w64 (v3.1+((v3.2.2.2.2.2.2.2.2.1.length:Int)))).toNat]?) fun _=>
  again (v3.2.2.1,v3.2.2.2.1,w64 (v3.2.2.2.2.1+1),v3.2.2.2.2.2.1,v3.2.2.2.2.2.2.1,v3.2.2.2.2.2.2.2.1,v3.2.2.2.2.2.2.2.2.1,v3.2.2.2.2.2.2.2.2.2.1,v3.2.2.2.2.2.2.2.2.2.2.1,List.set v3.2.2.2.2.2.2.2.2.2.2.2.1 (w64 (v3.1+((v3.2.2.2.2.2.2.2.2.1.length:Int)))).toNat (lB v3.2.1),())
 else
  some (Sum.inr (D,E,F,G,H,I,J,()))
def iZ (a0:bu) (a1:bu):Option (bu×Unit):=
 chk (decide (0≤(w64 (((a0.2.length:Int))+((a1.2.length:Int)))))&&decide ((w64 (((a0.2.length:Int))+((a1.2.length:Int))))≤(w64 (((a0.2.length:Int))+((a1.2.length:Int)))))&&decide ((4:Int)*(w64 (((a0.2.length:Int))+((a1.2.length:Int))))≤281474976710656)&&decide ((w64 (((a0.2.length:Int))+((a1.2.length:Int))))≤9223372036854775807)) <|
 aJ (β:=(bu×Unit)) (γ:=(Bool×(List Int)×Bool×(List Int)×Bool×(List Int)×(List Int)×Unit)) (
  iter (X:=kD) (β:=uM) (a0.2.length+(Int.natAbs ((a0.2.length:Int))+(Int.natAbs (0:Int)+(a0.2.length+(a1.2.length+(List.length ([]:List Int)+(List.length ((List.replicate (Int.toNat (w64 (((a0.2.length:Int))+((a1.2.length:Int))))) 0):List Int)+2))))))) (a0.2,(a0.2.length:Int),0,a0.1,a0.2,a1.1,a1.2,false,[],List.replicate (Int.toNat (w64 (((a0.2.length:Int))+((a1.2.length:Int))))) 0,()) (oL)) fun v10=>
 Option.bind (gP (!(v10.1==v10.2.2.1)) v10.2.2.2.2.2.2.1) fun r11=>
 some (r11.1,())
abbrev qu:Type:=Int×Int×Bool×(List Int)×Bool×(List Int)×Unit
abbrev Ba:Type:=((bu×Unit) ⊕ (Bool×(List Int)×Bool×(List Int)×Unit))
def vn (x1:qu) (again:qu→Option Ba):Option Ba:=
 match x1 with
 | (A,B,C,D,E,F,_)=>
 bif decide (B<A) then
  Option.bind (ja 10) fun r2=>
  Option.bind (iZ (E,F) r2.1) fun r3=>
  again (A,w64 (B+1),C,D,r3.1.1,r3.1.2,())
 else
  some (Sum.inr (C,D,E,F,()))
def w6 (a0:Int):Option (bu×Unit):=
 Option.bind (ja 1) fun r1=>
 aJ (β:=(bu×Unit)) (γ:=(Bool×(List Int)×Bool×(List Int)×Unit)) (
  iter (X:=qu) (β:=Ba) (Int.natAbs a0+(Int.natAbs (0:Int)+(List.length ([]:List Int)+(r1.1.2.length+2)))) (a0,0,false,[],r1.1.1,r1.1.2,()) (vn)) fun v5=>
 some ((v5.2.2.1,v5.2.2.2.1),())
abbrev Bc:Type:=(List Int)×(List Int)×Int×(List Int)×Int×Int×Unit
abbrev Bb:Type:=(((List Int)×Unit) ⊕ ((List Int)×Int×Unit))
def SR (x1:Bc) (again:Bc→Option Bb):Option Bb:=
 match x1 with
 | (A,B,C,D,E,F,_)=>
 bif decide (F<E) then
  Option.bind (idx D F) fun y2=>
  aJ (β:=(((List Int)×Unit) ⊕ ((List Int)×Int×Unit))) (γ:=((List Int)×(List Int)×Int×(List Int)×Int×Int×Unit)) (
   bif decide (F<((A.length:Int))) then
    Option.bind (idx A F) fun y3=>
    let n4:Int:=bY ((bY (C+(bY y2)))+(bY y3))
    some (Sum.inr (A,B,n4,D,E,F,()))
   else
    some (Sum.inr (A,B,bY (C+(bY y2)),D,E,F,()))) fun v5=>
  chk (decide (((v5.2.1.length)+1)*4≤140737488355328)&&decide ((v5.2.1.length)+1≤maxLen)) <|
  again (v5.1,v5.2.1++[(lB v5.2.2.1)],Int.fdiv v5.2.2.1 (2 ^ 32),v5.2.2.2.1,v5.2.2.2.2.1,w64 (v5.2.2.2.2.2.1+1),())
 else
  some (Sum.inr (B,C,()))
def HF (a0:List Int) (a1:List Int):Option ((List Int)×Unit):=
 aJ (β:=((List Int)×Unit)) (γ:=((List Int)×(List Int)×Unit)) (
  bif decide (((List.length a0:Int))<((List.length a1:Int))) then
   some (Sum.inr (a1,a0,()))
  else
   some (Sum.inr (a0,a1,()))) fun v1=>
 chk (decide (0≤(0:Int))&&decide ((0:Int)≤(w64 (((v1.1.length:Int))+1)))&&decide ((4:Int)*(w64 (((v1.1.length:Int))+1))≤281474976710656)&&decide ((w64 (((v1.1.length:Int))+1))≤9223372036854775807)) <|
 aJ (β:=((List Int)×Unit)) (γ:=((List Int)×Int×Unit)) (
  iter (X:=Bc) (β:=Bb) (v1.2.1.length+(List.length ([]:List Int)+(Int.natAbs (0:Int)+(v1.1.length+(Int.natAbs ((v1.1.length:Int))+(Int.natAbs (0:Int)+2)))))) (v1.2.1,[],0,v1.1,(v1.1.length:Int),0,()) (SR)) fun v7=>
 chk (decide (((v7.1.length)+1)*4≤140737488355328)&&decide ((v7.1.length)+1≤maxLen)) <|
 some (v7.1++[(lB v7.2.1)],())
def qs (a0:bu) (a1:bu):Option (bu×Unit):=
 bif a0.1==a1.1 then
  Option.bind (HF a0.2 a1.2) fun r1=>
  Option.bind (gP a0.1 r1.1) fun r2=>
  some (r2.1,())
 else
  Option.bind (rZ a0.2 a1.2) fun r3=>
  bif decide (r3.1≥0) then
   Option.bind (vo a0.2 a1.2) fun r4=>
   Option.bind (gP a0.1 r4.1) fun r5=>
   some (r5.1,())
  else
   Option.bind (vo a1.2 a0.2) fun r6=>
   Option.bind (gP a1.1 r6.1) fun r7=>
   some (r7.1,())
def xd (a0:aa) (a1:Int):Option (bu×Unit):=
 Option.bind (ja a0.1) fun r1=>
 Option.bind (w6 (w64 (a1 - a0.2))) fun r2=>
 Option.bind (iZ r1.1 r2.1) fun r3=>
 some (r3.1,())
abbrev J4:Type:=Int×Int×Bool×(List Int)×Bool×(List Int)×Bool×(List Int)×Unit
abbrev J3:Type:=((au×Int×Unit) ⊕ (Int×Bool×(List Int)×Bool×(List Int)×Unit))
def YG (x1:J4) (again:J4→Option J3):Option J3:=
 match x1 with
 | (A,B,C,D,E,F,G,H,_)=>
 bif decide (B≥0) then
  Option.bind (idx D B) fun y2=>
  let n3:Int:=w64 (Int.tdiv (w64 ((w64 (A*1000000))+y2)) 2)
  let n4:Int:=Int.tmod (w64 ((w64 (A*1000000))+y2)) 2
  chk (decide (0≤B)&&decide (B<(H.length:Int))) <|
  Option.bind (H[B.toNat]?) fun _=>
  again (n4,w64 (B - 1),C,D,E,F,G,List.set H B.toNat n3,())
 else
  some (Sum.inr (A,E,F,G,H,()))
def XP (a0:au):Option (au×Int×Unit):=
 chk (decide (0≤((a0.2.length:Int)))&&decide (((a0.2.length:Int))≤((a0.2.length:Int)))&&decide ((8:Int)*((a0.2.length:Int))≤281474976710656)&&decide (((a0.2.length:Int))≤9223372036854775807)) <|
 aJ (β:=(au×Int×Unit)) (γ:=(Int×Bool×(List Int)×Bool×(List Int)×Unit)) (
  iter (X:=J4) (β:=J3) (Int.natAbs (0:Int)+(Int.natAbs (w64 (((a0.2.length:Int)) - 1))+(a0.2.length+(List.length ([]:List Int)+(List.length ((List.replicate (Int.toNat ((a0.2.length:Int))) 0):List Int)+2))))) (0,w64 (((a0.2.length:Int)) - 1),a0.1,a0.2,false,[],false,List.replicate (Int.toNat ((a0.2.length:Int))) 0,()) (YG)) fun v6=>
 Option.bind (lX (v6.2.2.2.1,v6.2.2.2.2.1)) fun r7=>
 some (r7.1,v6.1,())
abbrev zH:Type:=(List Int)×Bool×(List Int)×Bool×(List Int)×Bool×(List Int)×Bool×(List Int)×Unit
abbrev E1:Type:=((au×au×Unit) ⊕ ((List Int)×Bool×(List Int)×Bool×(List Int)×Bool×(List Int)×Unit))
def Wc (x1:zH) (again:zH→Option E1):Option E1:=
 match x1 with
 | (A,B,C,D,E,F,G,H,I,_)=>
 Option.bind (DW (H,I)) fun r2=>
 bif decide (r2.1>0) then
  Option.bind (XP (H,I)) fun r3=>
  chk (decide (((A.length)+1)*8≤140737488355328)&&decide ((A.length)+1≤maxLen)) <|
  again (A++[r3.2.1],B,C,D,E,F,G,r3.1.1,r3.1.2,())
 else
  some (Sum.inr (A,B,C,D,E,F,G,()))
abbrev CP:Type:=(List Int)×Int×Bool×(List Int)×Bool×(List Int)×Bool×(List Int)×Bool×(List Int)×Bool×(List Int)×Bool×(List Int)×Unit
abbrev CO:Type:=((au×au×Unit) ⊕ (Bool×(List Int)×Bool×(List Int)×Bool×(List Int)×Bool×(List Int)×Unit))
def Ut (x1:CP) (again:CP→Option CO):Option CO:=
 match x1 with
 | (A,B,C,D,E,F,G,H,I,J,K,L,M,N,_)=>
 bif decide (B≥0) then
  Option.bind (lW (I,J) (M,N)) fun r2=>
  Option.bind (lW (K,L) (M,N)) fun r3=>
  chk (decide (0≤B)&&decide (B<(A.length:Int))) <|
  Option.bind (A[B.toNat]?) fun y4=>
  Option.bind (xC y4) fun r5=>
  Option.bind (yE r3.1 r5.1) fun r6=>
  Option.bind (IV r6.1 (C,D)) fun r7=>
  bif decide (r7.1≥0) then
   Option.bind (xC 1) fun r8=>
   Option.bind (yE r2.1 r8.1) fun r9=>
   Option.bind (A0 (C,D)) fun r10=>
   Option.bind (yE r6.1 r10.1) fun r11=>
   again (A,w64 (B - 1),C,D,E,F,G,H,r9.1.1,r9.1.2,r11.1.1,r11.1.2,M,N,())
  else
   again (A,w64 (B - 1),C,D,E,F,G,H,r2.1.1,r2.1.2,r6.1.1,r6.1.2,M,N,())
 else
  some (Sum.inr (E,F,G,H,I,J,K,L,()))
def TB (a0:au) (a1:au):Option (au×au×Unit):=
 aJ (β:=(au×au×Unit)) (γ:=((List Int)×Bool×(List Int)×Bool×(List Int)×Bool×(List Int)×Unit)) (
  iter (X:=zH) (β:=E1) ((20*List.length (([],a1.1,a1.2,false,[],false,[],a0.1,a0.2,()):zH).2.2.2.2.2.2.2.2.1+2)) ([],a1.1,a1.2,false,[],false,[],a0.1,a0.2,()) (Wc)) fun v4=>
 Option.bind (xC 2) fun r5=>
 aJ (β:=(au×au×Unit)) (γ:=(Bool×(List Int)×Bool×(List Int)×Bool×(List Int)×Bool×(List Int)×Unit)) (
  iter (X:=CP) (β:=CO) (v4.1.length+(Int.natAbs (w64 (((v4.1.length:Int)) - 1))+(v4.2.2.1.length+(v4.2.2.2.2.1.length+(v4.2.2.2.2.2.2.1.length+(List.length ([]:List Int)+(List.length ([]:List Int)+(r5.1.2.length+2)))))))) (v4.1,w64 (((v4.1.length:Int)) - 1),v4.2.1,v4.2.2.1,v4.2.2.2.1,v4.2.2.2.2.1,v4.2.2.2.2.2.1,v4.2.2.2.2.2.2.1,false,[],false,[],r5.1.1,r5.1.2,()) (Ut)) fun v17=>
 some ((v17.2.2.2.2.1,v17.2.2.2.2.2.1),(v17.2.2.2.2.2.2.1,v17.2.2.2.2.2.2.2.1),())
abbrev wO:Type:=Int×Int×Bool×(List Int)×Unit
abbrev Hz:Type:=((Int×Bool×Unit) ⊕ (Int×Bool×(List Int)×Unit))
def By (x1:wO) (again:wO→Option Hz):Option Hz:=
 match x1 with
 | (A,B,C,D,_)=>
 bif decide (B≥0) then
  Option.bind (idx D B) fun y2=>
  again (w64 ((w64 (A*1000000))+y2),w64 (B - 1),C,D,())
 else
  some (Sum.inr (A,C,D,()))
def J1 (a0:au) (a1:Int):Option (Int×Bool×Unit):=
 Option.bind (xC a1) fun r1=>
 Option.bind (A2 a0.2 r1.1.2) fun r2=>
 bif decide (r2.1>0) then
  some (0,false,())
 else
  aJ (β:=(Int×Bool×Unit)) (γ:=(Int×Bool×(List Int)×Unit)) (
   iter (X:=wO) (β:=Hz) (Int.natAbs (0:Int)+(Int.natAbs (w64 (((a0.2.length:Int)) - 1))+(a0.2.length+2))) (0,w64 (((a0.2.length:Int)) - 1),a0.1,a0.2,()) (By)) fun v5=>
  bif v5.2.1 then
   some (w64 (0 - v5.1),true,())
  else
   some (v5.1,true,())
end Go.Md
namespace Go.Md
open Go.Dn
abbrev b8:Ty:=(.st (.pair tI (.pair .str (.pair .str (.pair an (.pair an (.pair tI (.pair an (.pair an (.pair an an))))))))))
abbrev bf:Type:=Int×(List UInt8)×(List UInt8)×aa×aa×Int×aa×aa×aa×aa
abbrev pS:Type:=(List UInt8)×Int×Int×Int×Int×Unit
abbrev AR:Type:=((Bool×Unit) ⊕ Unit)
def u5 (x1:pS) (again:pS→Option AR):Option AR:=
 match x1 with
 | (A,B,C,D,E,_)=>
 bif decide (E<D) then
  Option.bind (uy A E) fun c2=>
  bif decide ((c2.toNat:Int)<B) then
   some (Sum.inl (false,()))
  else
   Option.bind (uy A E) fun c3=>
   bif decide ((c3.toNat:Int)>C) then
    some (Sum.inl (false,()))
   else
    again (A,B,C,D,w64 (E+1),())
 else
  some (Sum.inr ())
def G9 (a0:List UInt8) (a1:Int) (a2:Int):Option (Bool×Unit):=
 aJ (β:=(Bool×Unit)) (γ:=Unit) (
  iter (X:=pS) (β:=AR) (List.length a0+(Int.natAbs a1+(Int.natAbs a2+(Int.natAbs ((List.length a0:Int))+(Int.natAbs (0:Int)+2))))) (a0,a1,a2,(List.length a0:Int),0,()) (u5)) fun _=>
 some (true,())
def pT (a0:List UInt8):Option (Bool×Unit):=
 bif !(a0==[]) then
  Option.bind (G9 a0 48 57) fun r1=>
  some (r1.1,())
 else
  some (false,())
def jt (a0:aa) (a1:Bool):Option (Int×Unit):=
 Option.bind (eP a0) fun r1=>
 bif r1.1 != 0 then
  some (r1.1,())
 else
  Option.bind (p7 a0 3 1000000000) fun r2=>
  bif !r2.1 then
   some (1,())
  else
   bif a0.1==0 then
    bif !a1 then
     some (1,())
    else
     some (0,())
   else
    some (0,())
end Go.Md
namespace Go.Md
open Go.Dn
end Go.Md
namespace Go.Md
open Go.Dn
end Go.Md
