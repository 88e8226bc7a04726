/-
  The plain models of the functions that the law reaches, first part. No condition.
-/
import Derived.Test.YtekilbogbgmbbaaGreatDoorYd
import Derived.Lib.SlTrimSet
namespace Go.Md
open Go.Dn
abbrev Bys:Type:=List UInt8
def gB (s c:Bys):Option (Bys×Unit):=
 bif decide (s.length<=9223372036854775807)&&(decide (c.length<4294967281)&&c.all fun b=>decide (b.toNat<128)) then some (Lib.trimS s c,()) else none
abbrev au:Ty:=(.st (.pair tI tI))
abbrev ah:Type:=Int×Int
abbrev Rf:Type:=Int×ah×(List Bys)
abbrev bw:Ty:=(.st (.pair .bool (.slice tI)))
abbrev aI:Type:=Bool×(List Int)
abbrev oQ:Type:=Bys×Int×ah×Int×Int×Int
abbrev qa:Type:=oQ×Int×Int×Int×Int
abbrev dw:Ty:=(.st (.pair .bool (.slice (.int .u32))))
abbrev cq:Type:=Bool×(List Int)
def eP (a0:Bys):Option (Bool×Unit):=
 bif decide (((a0.length:Int))<1) then
  some (false,())
 else
  bif decide (((a0.length:Int))>40) then
   some (false,())
  else
   (qv a0 0).bind fun c1=>
   bif decide ((c1.toNat:Int)<97) then
    some (false,())
   else
    (qv a0 0).bind fun c2=>
    bif decide ((c2.toNat:Int)>122) then
     some (false,())
    else
     (gB a0 [97,98,99,100,101,102,103,104,105,106,107,108,109,110,111,112,113,114,115,116,117,118,119,120,121,122,48,49,50,51,52,53,54,55,56,57,45]).bind fun r3=>
     some (r3.1==[],())
def dR (a0:Int) (a1:Int) (a2:Int):Option (Bool×Unit):=
 bif decide (a0<a1) then
  some (true,())
 else
  some (decide (a0>a2),())
def mL (a0:Int):Option (Bool×Unit):=
 (dR a0 1 3652059).bind fun r1=>
 some (!r1.1,())
def gj (a0:ah):Option (Int×Unit):=
 (dR a0.1 (-1000000000000000) 1000000000000000).bind fun r1=>
 bif r1.1 then
  some (1,())
 else
  (dR a0.2 0 9).bind fun r2=>
  bif r2.1 then
   some (1,())
  else
   some (0,())
abbrev uv:Type:=Int×Int×Int×Unit
abbrev ur:Type:=((Int×Unit) ⊕ (Int×Unit))
def uo (x1:uv) (again:uv->Option ur):Option ur:=
 bif decide (x1.2.2.1<x1.2.1) then
  again (w64 (x1.1*10),x1.2.1,w64 (x1.2.2.1+1),())
 else
  some (.inr (x1.1,()))
def MQ (a0:Int):Option (Int×Unit):=
 aC (
  iter (X:=uv) (β:=ur) (Int.natAbs (1:Int)+(a0.natAbs+(Int.natAbs (0:Int)+2))) (1,a0,0,()) (uo)) fun v2=>
 some (v2.1,())
abbrev nA:Type:=(List Bys)×Bys×Int×Int×Unit
abbrev ny:Type:=((Int×Unit) ⊕ Unit)
def D7 (x1:nA) (again:nA->Option ny):Option ny:=
 match x1 with
 | (A,B,C,D,_)=>
 bif decide (D<C) then
  (idx A D).bind fun y2=>
  bif B==y2 then
   some (.inl (D,()))
  else
   again (A,B,C,w64 (D+1),())
 else
  some (.inr ())
def xI (a0:List Bys) (a1:Bys):Option (Int×Unit):=
 aC (
  iter (X:=nA) (β:=ny) (a0.length+(a1.length+(Int.natAbs ((a0.length:Int))+(Int.natAbs (0:Int)+2)))) (a0,a1,(a0.length:Int),0,()) (D7)) fun _=>
 some ((-1),())
abbrev lK:Type:=(List Int)×Unit
abbrev vk:Type:=(((List Int)×Unit) ⊕ ((List Int)×Unit))
def vi (x1:lK) (again:lK->Option vk):Option vk:=
 bif decide (((x1.1.length:Int))>0) then
  (idx x1.1 (w64 (((x1.1.length:Int)) - 1))).bind fun y2=>
  bif y2==0 then
   chk (decide (0<=(0:Int))&&decide ((0:Int)<=(w64 (((x1.1.length:Int)) - 1)))&&decide ((w64 (((x1.1.length:Int)) - 1))<=(x1.1.length:Int))) <|
   again (List.drop 0 (List.take (Int.toNat (w64 (((x1.1.length:Int)) - 1))) x1.1),())
  else
   some (.inr (x1.1,()))
 else
  some (.inr (x1.1,()))
def mw (a0:List Int):Option ((List Int)×Unit):=
 aC (
  iter (X:=lK) (β:=vk) (a0.length+2) (a0,()) (vi)) fun v3=>
 some (v3.1,())
def gG (a0:Bool) (a1:List Int):Option (cq×Unit):=
 (mw a1).bind fun r1=>
 bif a0 then
  some ((decide (((r1.1.length:Int))>0),r1.1),())
 else
  some ((false,r1.1),())
def sA (a0:Int):Option (cq×Unit):=
 aC (γ:=(Int×Int×Bool×(List Int)×Unit)) (
  bif decide (a0<0) then
   some (.inr (a0,cy (0 - (cy a0)),false,[],()))
  else
   some (.inr (a0,cy a0,false,[],()))) fun v1=>
 (gG (decide (v1.1<0)) [(kj v1.2.1),(kj (Int.fdiv v1.2.1 (2 ^ 32)))]).bind fun r2=>
 some (r2.1,())
abbrev sD:Type:=(List Int)×(List Int)×Int×(List Int)×Int×Int×Unit
abbrev sC:Type:=(((List Int)×Unit) ⊕ ((List Int)×Int×Unit))
def sB (x1:sD) (again:sD->Option sC):Option sC:=
 match x1 with
 | (A,B,C,D,E,F,_)=>
 bif decide (F<E) then
  (idx D F).bind fun y2=>
  aC (γ:=((List Int)×(List Int)×Int×(List Int)×Int×Int×Unit)) (
   bif decide (F<((A.length:Int))) then
    (idx A F).bind fun y3=>
    let n4:Int:=cy ((cy (C+(cy y2)))+(cy y3))
    some (.inr (A,B,n4,D,E,F,()))
   else
    some (.inr (A,B,cy (C+(cy y2)),D,E,F,()))) fun (G,H,I,J,K,L,_)=>
  chk (decide (((H.length)+1)*4<=140737488355328)&&decide ((H.length)+1<=maxLen)) <|
  again (G,H++[(kj I)],Int.fdiv I (2 ^ 32),J,K,w64 (L+1),())
 else
  some (.inr (B,C,()))
def Dh (a0:List Int) (a1:List Int):Option ((List Int)×Unit):=
 aC (γ:=((List Int)×(List Int)×Unit)) (
  bif decide (((a0.length:Int))<((a1.length:Int))) then
   some (.inr (a1,a0,()))
  else
   some (.inr (a0,a1,()))) fun (A,B,_)=>
 chk (decide (0<=(0:Int))&&decide ((0:Int)<=(w64 (((A.length:Int))+1)))&&decide ((4:Int)*(w64 (((A.length:Int))+1))<=281474976710656)&&decide ((w64 (((A.length:Int))+1))<=9223372036854775807)) <|
 aC (
  iter (X:=sD) (β:=sC) (B.length+(List.length ([]:List Int)+(Int.natAbs (0:Int)+(A.length+(Int.natAbs ((A.length:Int))+(Int.natAbs (0:Int)+2)))))) (B,[],0,A,(A.length:Int),0,()) (sB)) fun (C,D,_)=>
 chk (decide (((C.length)+1)*4<=140737488355328)&&decide ((C.length)+1<=maxLen)) <|
 some (C++[(kj D)],())
abbrev pN:Type:=(List Int)×(List Int)×Int×Unit
abbrev pM:Type:=((Int×Unit) ⊕ Unit)
def lJ (x1:pN) (again:pN->Option pM):Option pM:=
 match x1 with
 | (A,B,C,_)=>
 bif decide (C>=0) then
  (idx A C).bind fun y2=>
  (idx B C).bind fun y3=>
  bif y2 != y3 then
   (idx A C).bind fun y4=>
   (idx B C).bind fun y5=>
   bif decide (y4<y5) then
    some (.inl ((-1),()))
   else
    some (.inl (1,()))
  else
   again (A,B,w64 (C - 1),())
 else
  some (.inr ())
def p9 (a0:List Int) (a1:List Int):Option (Int×Unit):=
 bif ((a0.length:Int)) != ((a1.length:Int)) then
  some (w64 (((a0.length:Int)) - ((a1.length:Int))),())
 else
  aC (
   iter (X:=pN) (β:=pM) (a0.length+(a1.length+(Int.natAbs (w64 (((a0.length:Int)) - 1))+2))) (a0,a1,w64 (((a0.length:Int)) - 1),()) (lJ)) fun _=>
  some (0,())
abbrev uO:Type:=(List Int)×(List Int)×Int×(List Int)×Int×Int×Unit
abbrev uN:Type:=(((List Int)×Unit) ⊕ ((List Int)×Unit))
def uM (x1:uO) (again:uO->Option uN):Option uN:=
 match x1 with
 | (A,B,C,D,E,F,_)=>
 bif decide (F<E) then
  (idx D F).bind fun y2=>
  aC (γ:=((List Int)×(List Int)×Int×(List Int)×Int×Int×Unit)) (
   bif decide (F<((A.length:Int))) then
    (idx A F).bind fun y3=>
    let n4:Int:=cy ((cy ((cy y2) - C)) - (cy y3))
    some (.inr (A,B,n4,D,E,F,()))
   else
    some (.inr (A,B,cy ((cy y2) - C),D,E,F,()))) fun (G,H,I,J,K,L,_)=>
  chk (decide (((H.length)+1)*4<=140737488355328)&&decide ((H.length)+1<=maxLen)) <|
  again (G,H++[(kj I)],cy (((BitVec.ofInt (IntKind.bits .u64) (Int.fdiv I (2 ^ 32)) &&& BitVec.ofInt (IntKind.bits .u64) 1).toNat:Int)),J,K,w64 (L+1),())
 else
  some (.inr (B,()))
def tc (a0:List Int) (a1:List Int):Option ((List Int)×Unit):=
 chk (decide (0<=(0:Int))&&decide ((0:Int)<=((a0.length:Int)))&&decide ((4:Int)*((a0.length:Int))<=281474976710656)&&decide (((a0.length:Int))<=9223372036854775807)) <|
 aC (
  iter (X:=uO) (β:=uN) (a1.length+(List.length ([]:List Int)+(Int.natAbs (0:Int)+(a0.length+(Int.natAbs ((a0.length:Int))+(Int.natAbs (0:Int)+2)))))) (a1,[],0,a0,(a0.length:Int),0,()) (uM)) fun v6=>
 (mw v6.1).bind fun r7=>
 some (r7.1,())
abbrev qU:Type:=(List Int)×Int×Bool×(List Int)×Bool×(List Int)×Bool×(List Int)×Bool×(List Int)×(List Int)×Unit
abbrev qT:Type:=((cq×cq×Unit) ⊕ ((List Int)×Bool×(List Int)×Bool×(List Int)×(List Int)×Unit))
def qS (x1:qU) (again:qU->Option qT):Option qT:=
 match x1 with
 | (A,B,C,D,E,F,G,H,I,J,K,_)=>
 bif decide (B>=0) then
  (Dh A A).bind fun r2=>
  chk (decide (0<=(0:Int))&&decide ((0:Int)<(r2.1.length:Int))) <|
  (r2.1[0]?).bind fun y3=>
  (idx D (w64 (Int.tdiv B 32))).bind fun y4=>
  chk (decide (0<=(Int.tmod B 32))) <|
  let n5:Int:=kj (((BitVec.ofInt (IntKind.bits .u32) (Int.fdiv y4 (2 ^ (min (Int.toNat (Int.tmod B 32)) (IntKind.bits .u32)))) &&& BitVec.ofInt (IntKind.bits .u32) 1).toNat:Int))
  chk (decide (0<=(0:Int))&&decide ((0:Int)<(r2.1.length:Int))) <|
  (r2.1[0]?).bind fun _=>
  (mw (List.set r2.1 0 (kj (((BitVec.ofInt (IntKind.bits .u32) y3 ||| BitVec.ofInt (IntKind.bits .u32) n5).toNat:Int))))).bind fun r6=>
  (p9 r6.1 F).bind fun r7=>
  bif decide (r7.1>=0) then
   (tc r6.1 F).bind fun r8=>
   chk (decide (0<=(w64 (Int.tdiv B 32)))&&decide ((w64 (Int.tdiv B 32))<(K.length:Int))) <|
   (K[(w64 (Int.tdiv B 32)).toNat]?).bind fun y9=>
   chk (decide (0<=(Int.tmod B 32))) <|
   let n10:Int:=kj (((BitVec.ofInt (IntKind.bits .u32) y9 ||| BitVec.ofInt (IntKind.bits .u32) (kj (1*2 ^ (min (Int.toNat (Int.tmod B 32)) (IntKind.bits .u32))))).toNat:Int))
   chk (decide (0<=(w64 (Int.tdiv B 32)))&&decide ((w64 (Int.tdiv B 32))<(K.length:Int))) <|
   (K[(w64 (Int.tdiv B 32)).toNat]?).bind fun _=>
   again (r8.1,w64 (B - 1),C,D,E,F,G,H,I,J,List.set K (w64 (Int.tdiv B 32)).toNat n10,())
  else
   again (r6.1,w64 (B - 1),C,D,E,F,G,H,I,J,K,())
 else
  some (.inr (A,G,H,I,J,K,()))
def si (a0:cq) (a1:cq):Option (cq×cq×Unit):=
 chk (decide (0<=((a0.2.length:Int)))&&decide (((a0.2.length:Int))<=((a0.2.length:Int)))&&decide ((4:Int)*((a0.2.length:Int))<=281474976710656)&&decide (((a0.2.length:Int))<=9223372036854775807)) <|
 let n1:Int:=w64 ((w64 (((a0.2.length:Int))*32)) - 1)
 aC (
  iter (X:=qU) (β:=qT) (List.length ([]:List Int)+(n1.natAbs+(a0.2.length+(a1.2.length+(List.length ([]:List Int)+(List.length ([]:List Int)+(List.length ((List.replicate (Int.toNat ((a0.2.length:Int))) 0):List Int)+2))))))) ([],n1,a0.1,a0.2,a1.1,a1.2,false,[],false,[],List.replicate (Int.toNat ((a0.2.length:Int))) 0,()) (qS)) fun v14=>
 (gG false v14.2.2.2.2.2.1).bind fun r15=>
 (gG false v14.1).bind fun r16=>
 some (r15.1,r16.1,())
def jd (a0:cq):Option (Int×Unit):=
 bif a0.1 then
  some ((-1),())
 else
  bif ((a0.2.length:Int))==0 then
   some (0,())
  else
   some (1,())
def mY (a0:cq):Option (cq×Unit):=
 (gG (!a0.1) a0.2).bind fun r1=>
 some (r1.1,())
abbrev pL:Type:=Int×Int×(List Int)×Int×Int×Bool×(List Int)×Unit
abbrev pK:Type:=((Int×Bool×Unit) ⊕ (Int×Int×Bool×(List Int)×Unit))
def pJ (x1:pL) (again:pL->Option pK):Option pK:=
 match x1 with
 | (A,B,C,D,E,F,G,_)=>
 bif decide (E<D) then
  (idx C E).bind fun y2=>
  chk (decide (0<=(w64 (32*E)))) <|
  let n3:Int:=cy ((cy y2)*2 ^ (min (Int.toNat (w64 (32*E))) (IntKind.bits .u64)))
  again (A,cy (((BitVec.ofInt (IntKind.bits .u64) B ||| BitVec.ofInt (IntKind.bits .u64) n3).toNat:Int)),C,D,w64 (E+1),F,G,())
 else
  some (.inr (A,B,F,G,()))
def uL (a0:cq) (a1:Int):Option (Int×Bool×Unit):=
 bif decide (((a0.2.length:Int))>2) then
  some (0,false,())
 else
  aC (
   iter (X:=pL) (β:=pK) (a1.natAbs+(Int.natAbs (0:Int)+(a0.2.length+(Int.natAbs ((a0.2.length:Int))+(Int.natAbs (0:Int)+(a0.2.length+2)))))) (a1,0,a0.2,(a0.2.length:Int),0,a0.1,a0.2,()) (pJ)) fun (A,B,C,_,_)=>
  bif decide (B>(cy A)) then
   some (0,false,())
  else
   bif C then
    some (w64 (0 - (w64 B)),true,())
   else
    some (w64 B,true,())
def nc (a0:cq) (a1:Int):Option (ah×Int×Unit):=
 (uL a0 1000000000000000).bind fun r1=>
 bif !r1.2.1 then
  some ((0,0),1,())
 else
  some ((r1.1,a1),0,())
abbrev oU:Type:=Int×Bool×(List Int)×Int×Int×Bool×(List Int)×Unit
abbrev oT:Type:=((ah×Int×Unit) ⊕ (Int×Bool×(List Int)×Int×Int×Unit))
def oS (x1:oU) (again:oU->Option oT):Option oT:=
 match x1 with
 | (A,B,C,D,E,F,G,_)=>
 bif decide (A>0) then
  (si (B,C) (F,G)).bind fun r2=>
  (jd r2.2.1).bind fun r3=>
  bif r3.1 != 0 then
   some (.inr (A,B,C,D,E,()))
  else
   (jd (B,C)).bind fun r4=>
   bif decide (r4.1<0) then
    (mY r2.1).bind fun r5=>
    again (w64 (A - 1),r5.1.1,r5.1.2,D,E,F,G,())
   else
    again (w64 (A - 1),r2.1.1,r2.1.2,D,E,F,G,())
 else
  some (.inr (A,B,C,D,E,()))
def um (a0:cq) (a1:Int):Option (ah×Int×Unit):=
 (sA 10).bind fun r1=>
 aC (
  iter (X:=oU) (β:=oT) (a1.natAbs+(a0.2.length+(Int.natAbs (0:Int)+(Int.natAbs (0:Int)+(r1.1.2.length+2))))) (a1,a0.1,a0.2,0,0,r1.1.1,r1.1.2,()) (oS)) fun v7=>
 (nc (v7.2.1,v7.2.2.1) v7.1).bind fun r8=>
 some (r8.1,r8.2.1,())
abbrev BS:Type:=Int×Bool×(List Int)×Bool×(List Int)×Unit
abbrev BR:Type:=((aI×Unit) ⊕ (Bool×(List Int)×Bool×(List Int)×Unit))
def uY (x1:BS) (again:BS->Option BR):Option BR:=
 match x1 with
 | (A,B,C,D,E,_)=>
 bif A != 0 then
  chk (decide (((E.length)+1)*8<=140737488355328)&&decide ((E.length)+1<=maxLen)) <|
  again (w64 (Int.tdiv A 1000000),B,C,D,E++[(if (w64 (0 - (Int.tmod A 1000000)))>(Int.tmod A 1000000) then (w64 (0 - (Int.tmod A 1000000))) else (Int.tmod A 1000000))],())
 else
  some (.inr (B,C,D,E,()))
def JV (a0:Int):Option (aI×Unit):=
 aC (
  iter (X:=BS) (β:=BR) (a0.natAbs+(List.length ([]:List Int)+(List.length ([]:List Int)+2))) (a0,false,[],decide (a0<0),[],()) (uY)) fun v2=>
 some ((v2.2.2.1,v2.2.2.2.1),())
abbrev pU:Type:=Bool×(List Int)×Bool×(List Int)×Unit
abbrev z7:Type:=((aI×Unit) ⊕ (Bool×(List Int)×Bool×(List Int)×Unit))
def z6 (x1:pU) (again:pU->Option z7):Option z7:=
 match x1 with
 | (A,B,C,D,_)=>
 bif decide (((B.length:Int))>0) then
  (idx B (w64 (((B.length:Int)) - 1))).bind fun y2=>
  bif y2==0 then
   chk (decide (0<=(0:Int))&&decide ((0:Int)<=(w64 (((B.length:Int)) - 1)))&&decide ((w64 (((B.length:Int)) - 1))<=(B.length:Int))) <|
   again (A,List.drop 0 (List.take (Int.toNat (w64 (((B.length:Int)) - 1))) B),C,D,())
  else
   some (.inr (A,B,C,D,()))
 else
  some (.inr (A,B,C,D,()))
def mU (a0:aI):Option (aI×Unit):=
 aC (
  iter (X:=pU) (β:=z7) (a0.2.length+(List.length ([]:List Int)+2)) (a0.1,a0.2,false,[],()) (z6)) fun v3=>
 bif ((v3.2.1.length:Int))==0 then
  some ((false,v3.2.1),())
 else
  some ((v3.1,v3.2.1),())
abbrev uG:Type:=Int×Int×(List Int)×Int×Int×(List Int)×Int×Int×Bool×(List Int)×Bool×(List Int)×Bool×(List Int)×Unit
abbrev uE:Type:=(((aI×Unit) ⊕ (Bool×(List Int)×Bool×(List Int)×Unit)) ⊕ ((List Int)×Int×Int×Bool×(List Int)×Bool×(List Int)×Bool×(List Int)×Unit))
def uC (x1:uG) (again:uG->Option uE):Option uE:=
 match x1 with
 | (A,B,C,D,E,F,G,H,I,J,K,L,M,N,_)=>
 bif decide (H<G) then
  (idx F H).bind fun y2=>
  chk (decide (0<=(w64 (A+H)))&&decide ((w64 (A+H))<(N.length:Int))) <|
  (N[(w64 (A+H)).toNat]?).bind fun y3=>
  chk (decide (0<=(w64 (A+H)))&&decide ((w64 (A+H))<(N.length:Int))) <|
  (N[(w64 (A+H)).toNat]?).bind fun _=>
  chk (decide (0<=(w64 ((w64 (A+H))+1)))&&decide ((w64 ((w64 (A+H))+1))<(List.length (List.set N (w64 (A+H)).toNat (w64 (y3+(w64 (B*y2))))):Int))) <|
  ((List.set N (w64 (A+H)).toNat (w64 (y3+(w64 (B*y2)))))[(w64 ((w64 (A+H))+1)).toNat]?).bind fun y4=>
  chk (decide (0<=(w64 (A+H)))&&decide ((w64 (A+H))<(List.length (List.set N (w64 (A+H)).toNat (w64 (y3+(w64 (B*y2))))):Int))) <|
  ((List.set N (w64 (A+H)).toNat (w64 (y3+(w64 (B*y2)))))[(w64 (A+H)).toNat]?).bind fun y5=>
  chk (decide (0<=(w64 ((w64 (A+H))+1)))&&decide ((w64 ((w64 (A+H))+1))<(List.length (List.set N (w64 (A+H)).toNat (w64 (y3+(w64 (B*y2))))):Int))) <|
  ((List.set N (w64 (A+H)).toNat (w64 (y3+(w64 (B*y2)))))[(w64 ((w64 (A+H))+1)).toNat]?).bind fun _=>
  chk (decide (0<=(w64 (A+H)))&&decide ((w64 (A+H))<(List.length (List.set (List.set N (w64 (A+H)).toNat (w64 (y3+(w64 (B*y2))))) (w64 ((w64 (A+H))+1)).toNat (w64 (y4+(w64 (Int.tdiv y5 1000000))))):Int))) <|
  ((List.set (List.set N (w64 (A+H)).toNat (w64 (y3+(w64 (B*y2))))) (w64 ((w64 (A+H))+1)).toNat (w64 (y4+(w64 (Int.tdiv y5 1000000)))))[(w64 (A+H)).toNat]?).bind fun y6=>
  chk (decide (0<=(w64 (A+H)))&&decide ((w64 (A+H))<(List.length (List.set (List.set N (w64 (A+H)).toNat (w64 (y3+(w64 (B*y2))))) (w64 ((w64 (A+H))+1)).toNat (w64 (y4+(w64 (Int.tdiv y5 1000000))))):Int))) <|
  ((List.set (List.set N (w64 (A+H)).toNat (w64 (y3+(w64 (B*y2))))) (w64 ((w64 (A+H))+1)).toNat (w64 (y4+(w64 (Int.tdiv y5 1000000)))))[(w64 (A+H)).toNat]?).bind fun _=>
  again (A,B,C,D,E,F,G,w64 (H+1),I,J,K,L,M,List.set (List.set (List.set N (w64 (A+H)).toNat (w64 (y3+(w64 (B*y2))))) (w64 ((w64 (A+H))+1)).toNat (w64 (y4+(w64 (Int.tdiv y5 1000000))))) (w64 (A+H)).toNat (Int.tmod y6 1000000),())
 else
  some (.inr (C,D,E,I,J,K,L,M,N,()))
abbrev uF:Type:=(List Int)×Int×Int×Bool×(List Int)×Bool×(List Int)×Bool×(List Int)×Unit
abbrev uD:Type:=((aI×Unit) ⊕ (Bool×(List Int)×Bool×(List Int)×Unit))
def uB (x1:uF) (again:uF->Option uD):Option uD:=
 match x1 with
 | (A,B,C,D,E,F,G,H,I,_)=>
 bif decide (C<B) then
  (idx A C).bind fun y2=>
  aC (
   iter (X:=uG) (β:=uE) (C.natAbs+(y2.natAbs+(A.length+(B.natAbs+(C.natAbs+(E.length+(Int.natAbs ((E.length:Int))+(Int.natAbs (0:Int)+(E.length+(G.length+(I.length+2))))))))))) (C,y2,A,B,C,E,(E.length:Int),0,D,E,F,G,H,I,()) (uC)) fun (J,K,L,M,N,O,P,Q,R,_)=>
  again (J,K,w64 (L+1),M,N,O,P,Q,R,())
 else
  some (.inr (F,G,H,I,()))
abbrev sU:Type:=Int×Int×Bool×(List Int)×Bool×(List Int)×Unit
abbrev sS:Type:=((aI×Unit) ⊕ (Bool×(List Int)×Bool×(List Int)×Unit))
def sR (x1:sU) (again:sU->Option sS):Option sS:=
 match x1 with
 | (A,B,C,D,E,F,_)=>
 bif decide (B<A) then
  chk (decide (0<=(w64 (B+1)))&&decide ((w64 (B+1))<(F.length:Int))) <|
  (F[(w64 (B+1)).toNat]?).bind fun y2=>
  chk (decide (0<=B)&&decide (B<(F.length:Int))) <|
  (F[B.toNat]?).bind fun y3=>
  chk (decide (0<=(w64 (B+1)))&&decide ((w64 (B+1))<(F.length:Int))) <|
  (F[(w64 (B+1)).toNat]?).bind fun _=>
  chk (decide (0<=B)&&decide (B<(List.length (List.set F (w64 (B+1)).toNat (w64 (y2+(w64 (Int.tdiv y3 1000000))))):Int))) <|
  ((List.set F (w64 (B+1)).toNat (w64 (y2+(w64 (Int.tdiv y3 1000000)))))[B.toNat]?).bind fun y4=>
  chk (decide (0<=B)&&decide (B<(List.length (List.set F (w64 (B+1)).toNat (w64 (y2+(w64 (Int.tdiv y3 1000000))))):Int))) <|
  ((List.set F (w64 (B+1)).toNat (w64 (y2+(w64 (Int.tdiv y3 1000000)))))[B.toNat]?).bind fun _=>
  again (A,w64 (B+1),C,D,E,List.set (List.set F (w64 (B+1)).toNat (w64 (y2+(w64 (Int.tdiv y3 1000000))))) B.toNat (Int.tmod y4 1000000),())
 else
  some (.inr (C,D,E,F,()))
def sQ (a0:aI) (a1:aI):Option (aI×Unit):=
 let n1:Int:=w64 ((w64 (((a0.2.length:Int))+((a1.2.length:Int))))+1)
 chk (decide (0<=n1)&&decide (n1<=n1)&&decide ((8:Int)*n1<=281474976710656)&&decide (n1<=9223372036854775807)) <|
 aC (
  iter (X:=uF) (β:=uD) (a0.2.length+(Int.natAbs ((a0.2.length:Int))+(Int.natAbs (0:Int)+(a1.2.length+(List.length ([]:List Int)+(List.length ((List.replicate (Int.toNat n1) 0):List Int)+2)))))) (a0.2,(a0.2.length:Int),0,a1.1,a1.2,false,[], !(a0.1==a1.1),List.replicate (Int.toNat n1) 0,()) (uB)) fun (A,B,C,D,_)=>
 aC (
  iter (X:=sU) (β:=sS) (Int.natAbs (w64 (((D.length:Int)) - 1))+(Int.natAbs (0:Int)+(B.length+(D.length+2)))) (w64 (((D.length:Int)) - 1),0,A,B,C,D,()) (sR)) fun v21=>
 (mU (v21.2.2.1,v21.2.2.2.1)).bind fun r22=>
 some (r22.1,())
abbrev yI:Type:=Int×Int×Bool×(List Int)×Bool×(List Int)×Unit
abbrev yH:Type:=((aI×Unit) ⊕ (Bool×(List Int)×Bool×(List Int)×Unit))
def yG (x1:yI) (again:yI->Option yH):Option yH:=
 match x1 with
 | (A,B,C,D,E,F,_)=>
 bif decide (B<A) then
  (JV 10).bind fun r2=>
  (sQ (E,F) r2.1).bind fun r3=>
  again (A,w64 (B+1),C,D,r3.1.1,r3.1.2,())
 else
  some (.inr (C,D,E,F,()))
def Gp (a0:Int):Option (aI×Unit):=
 (JV 1).bind fun r1=>
 aC (
  iter (X:=yI) (β:=yH) (a0.natAbs+(Int.natAbs (0:Int)+(List.length ([]:List Int)+(r1.1.2.length+2)))) (a0,0,false,[],r1.1.1,r1.1.2,()) (yG)) fun v5=>
 some ((v5.2.2.1,v5.2.2.2.1),())
def AF (a0:ah) (a1:Int):Option (aI×Unit):=
 (JV a0.1).bind fun r1=>
 (Gp (w64 (a1 - a0.2))).bind fun r2=>
 (sQ r1.1 r2.1).bind fun r3=>
 some (r3.1,())
abbrev yK:Type:=(List Int)×(List Int)×Int×Unit
abbrev yJ:Type:=((Int×Unit) ⊕ Unit)
def tV (x1:yK) (again:yK->Option yJ):Option yJ:=
 match x1 with
 | (A,B,C,_)=>
 bif decide (C>=0) then
  (idx A C).bind fun y2=>
  (idx B C).bind fun y3=>
  bif y2 != y3 then
   (idx A C).bind fun y4=>
   (idx B C).bind fun y5=>
   some (.inl (w64 (y4 - y5),()))
  else
   again (A,B,w64 (C - 1),())
 else
  some (.inr ())
def Gq (a0:List Int) (a1:List Int):Option (Int×Unit):=
 bif ((a0.length:Int)) != ((a1.length:Int)) then
  some (w64 (((a0.length:Int)) - ((a1.length:Int))),())
 else
  aC (
   iter (X:=yK) (β:=yJ) (a0.length+(a1.length+(Int.natAbs (w64 (((a0.length:Int)) - 1))+2))) (a0,a1,w64 (((a0.length:Int)) - 1),()) (tV)) fun _=>
  some (0,())
def x8 (a0:List Int) (a1:Int):Option (Int×Unit):=
 bif decide (a1<((a0.length:Int))) then
  (idx a0 a1).bind fun y1=>
  some (y1,())
 else
  some (0,())
abbrev wL:Type:=Int×Int×Int×Bool×(List Int)×Bool×(List Int)×Bool×(List Int)×Bool×(List Int)×Unit
abbrev wK:Type:=((aI×Unit) ⊕ (Bool×(List Int)×Bool×(List Int)×Unit))
def wJ (x1:wL) (again:wL->Option wK):Option wK:=
 match x1 with
 | (A,B,C,D,E,F,G,H,I,J,K,_)=>
 bif decide (C<B) then
  (idx E C).bind fun y2=>
  (x8 G C).bind fun r3=>
  aC (γ:=(Int×Int×Int×Int×Bool×(List Int)×Bool×(List Int)×Bool×(List Int)×Bool×(List Int)×Unit)) (
   bif decide ((w64 ((w64 (y2 - r3.1)) - A))<0) then
    let n4:Int:=w64 ((w64 ((w64 (y2 - r3.1)) - A))+1000000)
    some (.inr (1,n4,B,C,D,E,F,G,H,I,J,K,()))
   else
    some (.inr (0,w64 ((w64 (y2 - r3.1)) - A),B,C,D,E,F,G,H,I,J,K,()))) fun (L,M,N,O,P,Q,R,S,T,U,V,W,_)=>
  chk (decide (((W.length)+1)*8<=140737488355328)&&decide ((W.length)+1<=maxLen)) <|
  again (L,N,w64 (O+1),P,Q,R,S,T,U,V,W++[M],())
 else
  some (.inr (H,I,J,K,()))
abbrev yF:Type:=Int×Int×Int×Bool×(List Int)×Bool×(List Int)×Bool×(List Int)×Bool×(List Int)×Unit
abbrev yE:Type:=((aI×Unit) ⊕ (Bool×(List Int)×Bool×(List Int)×Unit))
def yD (x1:yF) (again:yF->Option yE):Option yE:=
 match x1 with
 | (A,B,C,D,E,F,G,H,I,J,K,_)=>
 bif decide (C<B) then
  (x8 E C).bind fun r2=>
  (x8 G C).bind fun r3=>
  let n4:Int:=Int.tmod (w64 ((w64 (r2.1+r3.1))+A)) 1000000
  chk (decide (((K.length)+1)*8<=140737488355328)&&decide ((K.length)+1<=maxLen)) <|
  let n5:Int:=w64 (Int.tdiv (w64 ((w64 (r2.1+r3.1))+A)) 1000000)
  again (n5,B,w64 (C+1),D,E,F,G,H,I,J,K++[n4],())
 else
  some (.inr (H,I,J,K,()))
def JW (a0:aI) (a1:aI):Option (aI×Unit):=
 bif !(a0.1==a1.1) then
  (Gq a0.2 a1.2).bind fun r1=>
  aC (γ:=(Bool×(List Int)×Bool×(List Int)×Bool×(List Int)×Unit)) (
   bif decide (r1.1<0) then
    some (.inr (a1.1,a1.2,a0.1,a0.2,false,[],()))
   else
    some (.inr (a0.1,a0.2,a1.1,a1.2,false,[],()))) fun (A,B,C,D,E,F,_)=>
  aC (
   iter (X:=wL) (β:=wK) (Int.natAbs (0:Int)+(Int.natAbs ((B.length:Int))+(Int.natAbs (0:Int)+(B.length+(D.length+(F.length+(List.length ([]:List Int)+2))))))) (0,(B.length:Int),0,A,B,C,D,E,F,A,[],()) (wJ)) fun v8=>
  (mU (v8.2.2.1,v8.2.2.2.1)).bind fun r9=>
  some (r9.1,())
 else
  let n10:Int:=w64 ((if ((a1.2.length:Int))>((a0.2.length:Int)) then ((a1.2.length:Int)) else ((a0.2.length:Int)))+1)
  aC (
   iter (X:=yF) (β:=yE) (Int.natAbs (0:Int)+(n10.natAbs+(Int.natAbs (0:Int)+(a0.2.length+(a1.2.length+(List.length ([]:List Int)+(List.length ([]:List Int)+2))))))) (0,n10,0,a0.1,a0.2,a1.1,a1.2,false,[],a0.1,[],()) (yD)) fun v16=>
  (mU (v16.2.2.1,v16.2.2.2.1)).bind fun r17=>
  some (r17.1,())
def Gm (a0:aI):Option (aI×Unit):=
 bif decide (((a0.2.length:Int))>0) then
  some ((!a0.1,a0.2),())
 else
  some (a0,())
def JX (a0:aI):Option (Int×Unit):=
 bif ((a0.2.length:Int))==0 then
  some (0,())
 else
  bif a0.1 then
   some ((-1),())
  else
   some (1,())
def I8 (a0:aI) (a1:aI):Option (Int×Unit):=
 (Gm a1).bind fun r1=>
 (JW a0 r1.1).bind fun r2=>
 (JX r2.1).bind fun r3=>
 some (r3.1,())
end Go.Md
namespace Go.Md
open Go.Dn
abbrev BU:Type:=Bys×Int×Int×Unit
abbrev BT:Type:=((Bool×Unit) ⊕ Unit)
def wM (x1:BU) (again:BU->Option BT):Option BT:=
 match x1 with
 | (A,B,C,_)=>
 bif decide (C<B) then
  (qv A C).bind fun c2=>
  bif decide ((c2.toNat:Int)<97) then
   bif decide ((c2.toNat:Int)<48) then
    bif (c2.toNat:Int) != 45 then
     some (.inl (false,()))
    else
     again (A,B,w64 (C+1),())
   else
    bif decide ((c2.toNat:Int)>57) then
     bif (c2.toNat:Int) != 45 then
      some (.inl (false,()))
     else
      again (A,B,w64 (C+1),())
    else
     again (A,B,w64 (C+1),())
  else
   bif decide ((c2.toNat:Int)>122) then
    bif decide ((c2.toNat:Int)<48) then
     bif (c2.toNat:Int) != 45 then
      some (.inl (false,()))
     else
      again (A,B,w64 (C+1),())
    else
     bif decide ((c2.toNat:Int)>57) then
      bif (c2.toNat:Int) != 45 then
       some (.inl (false,()))
      else
       again (A,B,w64 (C+1),())
     else
      again (A,B,w64 (C+1),())
   else
    again (A,B,w64 (C+1),())
 else
  some (.inr ())
def I9 (a0:Bys):Option (Bool×Unit):=
 bif a0==[] then
  some (false,())
 else
  bif decide (((a0.length:Int))>40) then
   some (false,())
  else
   (qv a0 0).bind fun c1=>
   bif decide ((c1.toNat:Int)<97) then
    some (false,())
   else
    (qv a0 0).bind fun c2=>
    bif decide ((c2.toNat:Int)>122) then
     some (false,())
    else
     aC (
      iter (X:=BU) (β:=BT) (a0.length+(Int.natAbs ((a0.length:Int))+(Int.natAbs (0:Int)+2))) (a0,(a0.length:Int),0,()) (wM)) fun _=>
     some (true,())
def kT (a0:Bys):Option (Bool×Unit):=
 (I9 a0).bind fun r1=>
 some (r1.1,())
def vD (a0:Int) (a1:Int) (a2:Int):Option (Bool×Unit):=
 bif decide (a1<=a0) then
  some (decide (a0<=a2),())
 else
  some (false,())
def Ms (a0:Int):Option (Bool×Unit):=
 (vD a0 1 3652059).bind fun r1=>
 some (r1.1,())
def x7 (a0:Int):Option (Bool×Unit):=
 (Ms a0).bind fun r1=>
 some (r1.1,())
def jM (a0:ah):Option (Int×Unit):=
 (vD a0.1 (-1000000000000000) 1000000000000000).bind fun r1=>
 bif !r1.1 then
  some (1,())
 else
  (vD a0.2 0 9).bind fun r2=>
  bif !r2.1 then
   some (1,())
  else
   some (0,())
def Wd (a0:ah) (a1:ah):Option (Int×Unit):=
 (AF a0 9).bind fun r1=>
 (AF a1 9).bind fun r2=>
 (I8 r1.1 r2.1).bind fun r3=>
 some (r3.1,())
abbrev wI:Type:=Int×Int×Int×Int×Unit
abbrev wH:Type:=((ah×Unit) ⊕ (Int×Int×Int×Int×Unit))
def wG (x1:wI) (again:wI->Option wH):Option wH:=
 match x1 with
 | (A,B,C,D,_)=>
 bif decide (B>0) then
  bif (Int.tmod A 10)==0 then
   again (w64 (Int.tdiv A 10),w64 (B - 1),C,D,())
  else
   some (.inr (A,B,C,D,()))
 else
  some (.inr (A,B,C,D,()))
def fM (a0:ah):Option (ah×Unit):=
 aC (
  iter (X:=wI) (β:=wH) (a0.1.natAbs+(a0.2.natAbs+(Int.natAbs (0:Int)+(Int.natAbs (0:Int)+2)))) (a0.1,a0.2,0,0,()) (wG)) fun v2=>
 some ((v2.1,v2.2.1),())
end Go.Md
