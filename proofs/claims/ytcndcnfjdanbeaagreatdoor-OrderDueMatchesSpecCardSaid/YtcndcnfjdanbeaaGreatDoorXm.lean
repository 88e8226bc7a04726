/-
  The plain models of the functions that the law reaches, first part. No condition.
-/
import Derived.Test.YtcndcnfjdanbeaaGreatDoorXd
import Derived.Lib.SlTrimSet
set_option linter.all false
namespace Go.Md
open Go.Dn
abbrev Bys:Type:=List UInt8
def lZ (s c:Bys):Option (Bys×Unit):=
 bif decide (s.length≤9223372036854775807)&&(decide (c.length<4294967281)&&c.all fun b=>decide (b.toNat<128)) then some (Lib.trimS s c,()) else none
abbrev ax:Ty:=(.st (.pair tI tI))
abbrev ah:Type:=Int×Int
abbrev WS:Type:=Int×ah×(List Bys)
abbrev bE:Ty:=(.st (.pair .bool (.slice tI)))
abbrev aO:Type:=Bool×(List Int)
abbrev sM:Type:=Bys×Int×ah×Int×Int×Int
abbrev tZ:Type:=sM×Int×Int×Int×Int
abbrev dF:Ty:=(.st (.pair .bool (.slice (.int .u32))))
abbrev cq:Type:=Bool×(List Int)
def gz (a0:Bys):Option (Bool×Unit):=
 bif decide (((a0.length:Int))<1) then
  some (false,())
 else
  bif decide (((a0.length:Int))>40) then
   some (false,())
  else
   (vV a0 0).bind fun c1=>
   bif decide ((c1.toNat:Int)<97) then
    some (false,())
   else
    (vV a0 0).bind fun c2=>
    bif decide ((c2.toNat:Int)>122) then
     some (false,())
    else
     (lZ a0 [97,98,99,100,101,102,103,104,105,106,107,108,109,110,111,112,113,114,115,116,117,118,119,120,121,122,48,49,50,51,52,53,54,55,56,57,45]).bind fun r3=>
     some (r3.1==[],())
def fo (a0:Int) (a1:Int) (a2:Int):Option (Bool×Unit):=
 bif decide (a0<a1) then
  some (true,())
 else
  some (decide (a0>a2),())
def nG (a0:Int):Option (Bool×Unit):=
 (fo a0 1 3652059).bind fun r1=>
 some (!r1.1,())
def iD (a0:ah):Option (Int×Unit):=
 (fo a0.1 (-1000000000000000) 1000000000000000).bind fun r1=>
 bif r1.1 then
  some (1,())
 else
  (fo a0.2 0 9).bind fun r2=>
  bif r2.1 then
   some (1,())
  else
   some (0,())
abbrev yG:Type:=Int×Int×Int×Unit
abbrev yF:Type:=((Int×Unit) ⊕ (Int×Unit))
def yE (x1:yG) (again:yG→Option yF):Option yF:=
 bif decide (x1.2.2.1<x1.2.1) then
  again (w64 (x1.1*10),x1.2.1,w64 (x1.2.2.1+1),())
 else
  some (.inr (x1.1,()))
def SW (a0:Int):Option (Int×Unit):=
 aI (
  iter (X:=yG) (β:=yF) (Int.natAbs (1:Int)+(a0.natAbs+(Int.natAbs (0:Int)+2))) (1,a0,0,()) (yE)) fun v2=>
 some (v2.1,())
abbrev qJ:Type:=(List Bys)×Bys×Int×Int×Unit
abbrev qI:Type:=((Int×Unit) ⊕ Unit)
def JD (x1:qJ) (again:qJ→Option qI):Option qI:=
 match x1 with
 | (A,B,C,D,_)=>
 bif decide (D<C) then
  (idx A D).bind fun y2=>
  bif B==y2 then
   some (.inl (D,()))
  else
   again (A,B,C,w64 (D+1),())
 else
  some (.inr ())
def BQ (a0:List Bys) (a1:Bys):Option (Int×Unit):=
 aI (
  iter (X:=qJ) (β:=qI) (a0.length+(a1.length+(Int.natAbs ((a0.length:Int))+(Int.natAbs (0:Int)+2)))) (a0,a1,(a0.length:Int),0,()) (JD)) fun _=>
 some ((-1),())
abbrev oI:Type:=(List Int)×Unit
abbrev zw:Type:=(((List Int)×Unit) ⊕ ((List Int)×Unit))
def zq (x1:oI) (again:oI→Option zw):Option zw:=
 bif decide (((x1.1.length:Int))>0) then
  (idx x1.1 (w64 (((x1.1.length:Int)) - 1))).bind fun y2=>
  bif y2==0 then
   chk (decide (0≤(0:Int))&&decide ((0:Int)≤(w64 (((x1.1.length:Int)) - 1)))&&decide ((w64 (((x1.1.length:Int)) - 1))≤(x1.1.length:Int))) <|
   again (List.drop 0 (List.take (Int.toNat (w64 (((x1.1.length:Int)) - 1))) x1.1),())
  else
   some (.inr (x1.1,()))
 else
  some (.inr (x1.1,()))
def pM (a0:List Int):Option ((List Int)×Unit):=
 aI (
  iter (X:=oI) (β:=zw) (a0.length+2) (a0,()) (zq)) fun v3=>
 some (v3.1,())
def jb (a0:Bool) (a1:List Int):Option (cq×Unit):=
 (pM a1).bind fun r1=>
 bif a0 then
  some ((decide (((r1.1.length:Int))>0),r1.1),())
 else
  some ((false,r1.1),())
def wF (a0:Int):Option (cq×Unit):=
 aI (γ:=(Int×Int×Bool×(List Int)×Unit)) (
  bif decide (a0<0) then
   some (.inr (a0,b9 (0 - (b9 a0)),false,[],()))
  else
   some (.inr (a0,b9 a0,false,[],()))) fun v1=>
 (jb (decide (v1.1<0)) [(mQ v1.2.1),(mQ (Int.fdiv v1.2.1 (2 ^ 32)))]).bind fun r2=>
 some (r2.1,())
abbrev wI:Type:=(List Int)×(List Int)×Int×(List Int)×Int×Int×Unit
abbrev wH:Type:=(((List Int)×Unit) ⊕ ((List Int)×Int×Unit))
def wG (x1:wI) (again:wI→Option wH):Option wH:=
 match x1 with
 | (A,B,C,D,E,F,_)=>
 bif decide (F<E) then
  (idx D F).bind fun y2=>
  aI (γ:=((List Int)×(List Int)×Int×(List Int)×Int×Int×Unit)) (
   bif decide (F<((A.length:Int))) then
    (idx A F).bind fun y3=>
    let n4:Int:=b9 ((b9 (C+(b9 y2)))+(b9 y3))
    some (.inr (A,B,n4,D,E,F,()))
   else
    some (.inr (A,B,b9 (C+(b9 y2)),D,E,F,()))) fun (G,H,I,J,K,L,_)=>
  chk (decide (((H.length)+1)*4≤140737488355328)&&decide ((H.length)+1≤maxLen)) <|
  again (G,H++[(mQ I)],Int.fdiv I (2 ^ 32),J,K,w64 (L+1),())
 else
  some (.inr (B,C,()))
def IN (a0:List Int) (a1:List Int):Option ((List Int)×Unit):=
 aI (γ:=((List Int)×(List Int)×Unit)) (
  bif decide (((a0.length:Int))<((a1.length:Int))) then
   some (.inr (a1,a0,()))
  else
   some (.inr (a0,a1,()))) fun (A,B,_)=>
 chk (decide (0≤(0:Int))&&decide ((0:Int)≤(w64 (((A.length:Int))+1)))&&decide ((4:Int)*(w64 (((A.length:Int))+1))≤281474976710656)&&decide ((w64 (((A.length:Int))+1))≤9223372036854775807)) <|
 aI (
  iter (X:=wI) (β:=wH) (B.length+(List.length ([]:List Int)+(Int.natAbs (0:Int)+(A.length+(Int.natAbs ((A.length:Int))+(Int.natAbs (0:Int)+2)))))) (B,[],0,A,(A.length:Int),0,()) (wG)) fun (C,D,_)=>
 chk (decide (((C.length)+1)*4≤140737488355328)&&decide ((C.length)+1≤maxLen)) <|
 some (C++[(mQ D)],())
abbrev tv:Type:=(List Int)×(List Int)×Int×Unit
abbrev tu:Type:=((Int×Unit) ⊕ Unit)
def oH (x1:tv) (again:tv→Option tu):Option tu:=
 match x1 with
 | (A,B,C,_)=>
 bif decide (C≥0) then
  (idx A C).bind fun y2=>
  (idx B C).bind fun y3=>
  bif y2 != y3 then
   (idx A C).bind fun y4=>
   (idx B C).bind fun y5=>
   bif decide (y4<y5) then
    some (.inl ((-1),()))
   else
    some (.inl (1,()))
  else
   again (A,B,w64 (C - 1),())
 else
  some (.inr ())
def tY (a0:List Int) (a1:List Int):Option (Int×Unit):=
 bif ((a0.length:Int)) != ((a1.length:Int)) then
  some (w64 (((a0.length:Int)) - ((a1.length:Int))),())
 else
  aI (
   iter (X:=tv) (β:=tu) (a0.length+(a1.length+(Int.natAbs (w64 (((a0.length:Int)) - 1))+2))) (a0,a1,w64 (((a0.length:Int)) - 1),()) (oH)) fun _=>
  some (0,())
abbrev yY:Type:=(List Int)×(List Int)×Int×(List Int)×Int×Int×Unit
abbrev yX:Type:=(((List Int)×Unit) ⊕ ((List Int)×Unit))
def yW (x1:yY) (again:yY→Option yX):Option yX:=
 match x1 with
 | (A,B,C,D,E,F,_)=>
 bif decide (F<E) then
  (idx D F).bind fun y2=>
  aI (γ:=((List Int)×(List Int)×Int×(List Int)×Int×Int×Unit)) (
   bif decide (F<((A.length:Int))) then
    (idx A F).bind fun y3=>
    let n4:Int:=b9 ((b9 ((b9 y2) - C)) - (b9 y3))
    some (.inr (A,B,n4,D,E,F,()))
   else
    some (.inr (A,B,b9 ((b9 y2) - C),D,E,F,()))) fun (G,H,I,J,K,L,_)=>
  chk (decide (((H.length)+1)*4≤140737488355328)&&decide ((H.length)+1≤maxLen)) <|
  again (G,H++[(mQ I)],b9 (((BitVec.ofInt (IntKind.bits .u64) (Int.fdiv I (2 ^ 32)) &&& BitVec.ofInt (IntKind.bits .u64) 1).toNat:Int)),J,K,w64 (L+1),())
 else
  some (.inr (B,()))
def xk (a0:List Int) (a1:List Int):Option ((List Int)×Unit):=
 chk (decide (0≤(0:Int))&&decide ((0:Int)≤((a0.length:Int)))&&decide ((4:Int)*((a0.length:Int))≤281474976710656)&&decide (((a0.length:Int))≤9223372036854775807)) <|
 aI (
  iter (X:=yY) (β:=yX) (a1.length+(List.length ([]:List Int)+(Int.natAbs (0:Int)+(a0.length+(Int.natAbs ((a0.length:Int))+(Int.natAbs (0:Int)+2)))))) (a1,[],0,a0,(a0.length:Int),0,()) (yW)) fun v6=>
 (pM v6.1).bind fun r7=>
 some (r7.1,())
abbrev uZ:Type:=(List Int)×Int×Bool×(List Int)×Bool×(List Int)×Bool×(List Int)×Bool×(List Int)×(List Int)×Unit
abbrev uY:Type:=((cq×cq×Unit) ⊕ ((List Int)×Bool×(List Int)×Bool×(List Int)×(List Int)×Unit))
def uX (x1:uZ) (again:uZ→Option uY):Option uY:=
 match x1 with
 | (A,B,C,D,E,F,G,H,I,J,K,_)=>
 bif decide (B≥0) then
  (IN A A).bind fun r2=>
  chk (decide (0≤(0:Int))&&decide ((0:Int)<(r2.1.length:Int))) <|
  (r2.1[0]?).bind fun y3=>
  (idx D (w64 (Int.tdiv B 32))).bind fun y4=>
  chk (decide (0≤(Int.tmod B 32))) <|
  let n5:Int:=mQ (((BitVec.ofInt (IntKind.bits .u32) (Int.fdiv y4 (2 ^ (min (Int.toNat (Int.tmod B 32)) (IntKind.bits .u32)))) &&& BitVec.ofInt (IntKind.bits .u32) 1).toNat:Int))
  chk (decide (0≤(0:Int))&&decide ((0:Int)<(r2.1.length:Int))) <|
  (r2.1[0]?).bind fun _=>
  (pM (List.set r2.1 0 (mQ (((BitVec.ofInt (IntKind.bits .u32) y3 ||| BitVec.ofInt (IntKind.bits .u32) n5).toNat:Int))))).bind fun r6=>
  (tY r6.1 F).bind fun r7=>
  bif decide (r7.1≥0) then
   (xk r6.1 F).bind fun r8=>
   chk (decide (0≤(w64 (Int.tdiv B 32)))&&decide ((w64 (Int.tdiv B 32))<(K.length:Int))) <|
   (K[(w64 (Int.tdiv B 32)).toNat]?).bind fun y9=>
   chk (decide (0≤(Int.tmod B 32))) <|
   let n10:Int:=mQ (((BitVec.ofInt (IntKind.bits .u32) y9 ||| BitVec.ofInt (IntKind.bits .u32) (mQ (1*2 ^ (min (Int.toNat (Int.tmod B 32)) (IntKind.bits .u32))))).toNat:Int))
   chk (decide (0≤(w64 (Int.tdiv B 32)))&&decide ((w64 (Int.tdiv B 32))<(K.length:Int))) <|
   (K[(w64 (Int.tdiv B 32)).toNat]?).bind fun _=>
   again (r8.1,w64 (B - 1),C,D,E,F,G,H,I,J,List.set K (w64 (Int.tdiv B 32)).toNat n10,())
  else
   again (r6.1,w64 (B - 1),C,D,E,F,G,H,I,J,K,())
 else
  some (.inr (A,G,H,I,J,K,()))
def wA (a0:cq) (a1:cq):Option (cq×cq×Unit):=
 chk (decide (0≤((a0.2.length:Int)))&&decide (((a0.2.length:Int))≤((a0.2.length:Int)))&&decide ((4:Int)*((a0.2.length:Int))≤281474976710656)&&decide (((a0.2.length:Int))≤9223372036854775807)) <|
 let n1:Int:=w64 ((w64 (((a0.2.length:Int))*32)) - 1)
 aI (
  iter (X:=uZ) (β:=uY) (List.length ([]:List Int)+(n1.natAbs+(a0.2.length+(a1.2.length+(List.length ([]:List Int)+(List.length ([]:List Int)+(List.length ((List.replicate (Int.toNat ((a0.2.length:Int))) 0):List Int)+2))))))) ([],n1,a0.1,a0.2,a1.1,a1.2,false,[],false,[],List.replicate (Int.toNat ((a0.2.length:Int))) 0,()) (uX)) fun v14=>
 (jb false v14.2.2.2.2.2.1).bind fun r15=>
 (jb false v14.1).bind fun r16=>
 some (r15.1,r16.1,())
def kX (a0:cq):Option (Int×Unit):=
 bif a0.1 then
  some ((-1),())
 else
  bif ((a0.2.length:Int))==0 then
   some (0,())
  else
   some (1,())
def qy (a0:cq):Option (cq×Unit):=
 (jb (!a0.1) a0.2).bind fun r1=>
 some (r1.1,())
abbrev tr:Type:=Int×Int×(List Int)×Int×Int×Bool×(List Int)×Unit
abbrev tq:Type:=((Int×Bool×Unit) ⊕ (Int×Int×Bool×(List Int)×Unit))
def tj (x1:tr) (again:tr→Option tq):Option tq:=
 match x1 with
 | (A,B,C,D,E,F,G,_)=>
 bif decide (E<D) then
  (idx C E).bind fun y2=>
  chk (decide (0≤(w64 (32*E)))) <|
  let n3:Int:=b9 ((b9 y2)*2 ^ (min (Int.toNat (w64 (32*E))) (IntKind.bits .u64)))
  again (A,b9 (((BitVec.ofInt (IntKind.bits .u64) B ||| BitVec.ofInt (IntKind.bits .u64) n3).toNat:Int)),C,D,w64 (E+1),F,G,())
 else
  some (.inr (A,B,F,G,()))
def yV (a0:cq) (a1:Int):Option (Int×Bool×Unit):=
 bif decide (((a0.2.length:Int))>2) then
  some (0,false,())
 else
  aI (
   iter (X:=tr) (β:=tq) (a1.natAbs+(Int.natAbs (0:Int)+(a0.2.length+(Int.natAbs ((a0.2.length:Int))+(Int.natAbs (0:Int)+(a0.2.length+2)))))) (a1,0,a0.2,(a0.2.length:Int),0,a0.1,a0.2,()) (tj)) fun (A,B,C,_,_)=>
  bif decide (B>(b9 A)) then
   some (0,false,())
  else
   bif C then
    some (w64 (0 - (w64 B)),true,())
   else
    some (w64 B,true,())
def qA (a0:cq) (a1:Int):Option (ah×Int×Unit):=
 (yV a0 1000000000000000).bind fun r1=>
 bif !r1.2.1 then
  some ((0,0),1,())
 else
  some ((r1.1,a1),0,())
abbrev sP:Type:=Int×Bool×(List Int)×Int×Int×Bool×(List Int)×Unit
abbrev sO:Type:=((ah×Int×Unit) ⊕ (Int×Bool×(List Int)×Int×Int×Unit))
def sN (x1:sP) (again:sP→Option sO):Option sO:=
 match x1 with
 | (A,B,C,D,E,F,G,_)=>
 bif decide (A>0) then
  (wA (B,C) (F,G)).bind fun r2=>
  (kX r2.2.1).bind fun r3=>
  bif r3.1 != 0 then
   some (.inr (A,B,C,D,E,()))
  else
   (kX (B,C)).bind fun r4=>
   bif decide (r4.1<0) then
    (qy r2.1).bind fun r5=>
    again (w64 (A - 1),r5.1.1,r5.1.2,D,E,F,G,())
   else
    again (w64 (A - 1),r2.1.1,r2.1.2,D,E,F,G,())
 else
  some (.inr (A,B,C,D,E,()))
def yD (a0:cq) (a1:Int):Option (ah×Int×Unit):=
 (wF 10).bind fun r1=>
 aI (
  iter (X:=sP) (β:=sO) (a1.natAbs+(a0.2.length+(Int.natAbs (0:Int)+(Int.natAbs (0:Int)+(r1.1.2.length+2))))) (a1,a0.1,a0.2,0,0,r1.1.1,r1.1.2,()) (sN)) fun v7=>
 (qA (v7.2.1,v7.2.2.1) v7.1).bind fun r8=>
 some (r8.1,r8.2.1,())
abbrev GV:Type:=Int×Bool×(List Int)×Bool×(List Int)×Unit
abbrev GU:Type:=((aO×Unit) ⊕ (Bool×(List Int)×Bool×(List Int)×Unit))
def zl (x1:GV) (again:GV→Option GU):Option GU:=
 match x1 with
 | (A,B,C,D,E,_)=>
 bif A != 0 then
  chk (decide (((E.length)+1)*8≤140737488355328)&&decide ((E.length)+1≤maxLen)) <|
  again (w64 (Int.tdiv A 1000000),B,C,D,E++[(if (w64 (0 - (Int.tmod A 1000000)))>(Int.tmod A 1000000) then (w64 (0 - (Int.tmod A 1000000))) else (Int.tmod A 1000000))],())
 else
  some (.inr (B,C,D,E,()))
def Qh (a0:Int):Option (aO×Unit):=
 aI (
  iter (X:=GV) (β:=GU) (a0.natAbs+(List.length ([]:List Int)+(List.length ([]:List Int)+2))) (a0,false,[],decide (a0<0),[],()) (zl)) fun v2=>
 some ((v2.2.2.1,v2.2.2.2.1),())
abbrev tQ:Type:=Bool×(List Int)×Bool×(List Int)×Unit
abbrev EA:Type:=((aO×Unit) ⊕ (Bool×(List Int)×Bool×(List Int)×Unit))
def Ez (x1:tQ) (again:tQ→Option EA):Option EA:=
 match x1 with
 | (A,B,C,D,_)=>
 bif decide (((B.length:Int))>0) then
  (idx B (w64 (((B.length:Int)) - 1))).bind fun y2=>
  bif y2==0 then
   chk (decide (0≤(0:Int))&&decide ((0:Int)≤(w64 (((B.length:Int)) - 1)))&&decide ((w64 (((B.length:Int)) - 1))≤(B.length:Int))) <|
   again (A,List.drop 0 (List.take (Int.toNat (w64 (((B.length:Int)) - 1))) B),C,D,())
  else
   some (.inr (A,B,C,D,()))
 else
  some (.inr (A,B,C,D,()))
def qn (a0:aO):Option (aO×Unit):=
 aI (
  iter (X:=tQ) (β:=EA) (a0.2.length+(List.length ([]:List Int)+2)) (a0.1,a0.2,false,[],()) (Ez)) fun v3=>
 bif ((v3.2.1.length:Int))==0 then
  some ((false,v3.2.1),())
 else
  some ((v3.1,v3.2.1),())
abbrev yP:Type:=Int×Int×(List Int)×Int×Int×(List Int)×Int×Int×Bool×(List Int)×Bool×(List Int)×Bool×(List Int)×Unit
abbrev yN:Type:=(((aO×Unit) ⊕ (Bool×(List Int)×Bool×(List Int)×Unit)) ⊕ ((List Int)×Int×Int×Bool×(List Int)×Bool×(List Int)×Bool×(List Int)×Unit))
def yL (x1:yP) (again:yP→Option yN):Option yN:=
 match x1 with
 | (A,B,C,D,E,F,G,H,I,J,K,L,M,N,_)=>
 bif decide (H<G) then
  (idx F H).bind fun y2=>
  chk (decide (0≤(w64 (A+H)))&&decide ((w64 (A+H))<(N.length:Int))) <|
  (N[(w64 (A+H)).toNat]?).bind fun y3=>
  chk (decide (0≤(w64 (A+H)))&&decide ((w64 (A+H))<(N.length:Int))) <|
  (N[(w64 (A+H)).toNat]?).bind fun _=>
  chk (decide (0≤(w64 ((w64 (A+H))+1)))&&decide ((w64 ((w64 (A+H))+1))<(List.length (List.set N (w64 (A+H)).toNat (w64 (y3+(w64 (B*y2))))):Int))) <|
  ((List.set N (w64 (A+H)).toNat (w64 (y3+(w64 (B*y2)))))[(w64 ((w64 (A+H))+1)).toNat]?).bind fun y4=>
  chk (decide (0≤(w64 (A+H)))&&decide ((w64 (A+H))<(List.length (List.set N (w64 (A+H)).toNat (w64 (y3+(w64 (B*y2))))):Int))) <|
  ((List.set N (w64 (A+H)).toNat (w64 (y3+(w64 (B*y2)))))[(w64 (A+H)).toNat]?).bind fun y5=>
  chk (decide (0≤(w64 ((w64 (A+H))+1)))&&decide ((w64 ((w64 (A+H))+1))<(List.length (List.set N (w64 (A+H)).toNat (w64 (y3+(w64 (B*y2))))):Int))) <|
  ((List.set N (w64 (A+H)).toNat (w64 (y3+(w64 (B*y2)))))[(w64 ((w64 (A+H))+1)).toNat]?).bind fun _=>
  chk (decide (0≤(w64 (A+H)))&&decide ((w64 (A+H))<(List.length (List.set (List.set N (w64 (A+H)).toNat (w64 (y3+(w64 (B*y2))))) (w64 ((w64 (A+H))+1)).toNat (w64 (y4+(w64 (Int.tdiv y5 1000000))))):Int))) <|
  ((List.set (List.set N (w64 (A+H)).toNat (w64 (y3+(w64 (B*y2))))) (w64 ((w64 (A+H))+1)).toNat (w64 (y4+(w64 (Int.tdiv y5 1000000)))))[(w64 (A+H)).toNat]?).bind fun y6=>
  chk (decide (0≤(w64 (A+H)))&&decide ((w64 (A+H))<(List.length (List.set (List.set N (w64 (A+H)).toNat (w64 (y3+(w64 (B*y2))))) (w64 ((w64 (A+H))+1)).toNat (w64 (y4+(w64 (Int.tdiv y5 1000000))))):Int))) <|
  ((List.set (List.set N (w64 (A+H)).toNat (w64 (y3+(w64 (B*y2))))) (w64 ((w64 (A+H))+1)).toNat (w64 (y4+(w64 (Int.tdiv y5 1000000)))))[(w64 (A+H)).toNat]?).bind fun _=>
  again (A,B,C,D,E,F,G,w64 (H+1),I,J,K,L,M,List.set (List.set (List.set N (w64 (A+H)).toNat (w64 (y3+(w64 (B*y2))))) (w64 ((w64 (A+H))+1)).toNat (w64 (y4+(w64 (Int.tdiv y5 1000000))))) (w64 (A+H)).toNat (Int.tmod y6 1000000),())
 else
  some (.inr (C,D,E,I,J,K,L,M,N,()))
abbrev yO:Type:=(List Int)×Int×Int×Bool×(List Int)×Bool×(List Int)×Bool×(List Int)×Unit
abbrev yM:Type:=((aO×Unit) ⊕ (Bool×(List Int)×Bool×(List Int)×Unit))
def yK (x1:yO) (again:yO→Option yM):Option yM:=
 match x1 with
 | (A,B,C,D,E,F,G,H,I,_)=>
 bif decide (C<B) then
  (idx A C).bind fun y2=>
  aI (
   iter (X:=yP) (β:=yN) (C.natAbs+(y2.natAbs+(A.length+(B.natAbs+(C.natAbs+(E.length+(Int.natAbs ((E.length:Int))+(Int.natAbs (0:Int)+(E.length+(G.length+(I.length+2))))))))))) (C,y2,A,B,C,E,(E.length:Int),0,D,E,F,G,H,I,()) (yL)) fun (J,K,L,M,N,O,P,Q,R,_)=>
  again (J,K,w64 (L+1),M,N,O,P,Q,R,())
 else
  some (.inr (F,G,H,I,()))
abbrev xb:Type:=Int×Int×Bool×(List Int)×Bool×(List Int)×Unit
abbrev w9:Type:=((aO×Unit) ⊕ (Bool×(List Int)×Bool×(List Int)×Unit))
def w8 (x1:xb) (again:xb→Option w9):Option w9:=
 match x1 with
 | (A,B,C,D,E,F,_)=>
 bif decide (B<A) then
  chk (decide (0≤(w64 (B+1)))&&decide ((w64 (B+1))<(F.length:Int))) <|
  (F[(w64 (B+1)).toNat]?).bind fun y2=>
  chk (decide (0≤B)&&decide (B<(F.length:Int))) <|
  (F[B.toNat]?).bind fun y3=>
  chk (decide (0≤(w64 (B+1)))&&decide ((w64 (B+1))<(F.length:Int))) <|
  (F[(w64 (B+1)).toNat]?).bind fun _=>
  chk (decide (0≤B)&&decide (B<(List.length (List.set F (w64 (B+1)).toNat (w64 (y2+(w64 (Int.tdiv y3 1000000))))):Int))) <|
  ((List.set F (w64 (B+1)).toNat (w64 (y2+(w64 (Int.tdiv y3 1000000)))))[B.toNat]?).bind fun y4=>
  chk (decide (0≤B)&&decide (B<(List.length (List.set F (w64 (B+1)).toNat (w64 (y2+(w64 (Int.tdiv y3 1000000))))):Int))) <|
  ((List.set F (w64 (B+1)).toNat (w64 (y2+(w64 (Int.tdiv y3 1000000)))))[B.toNat]?).bind fun _=>
  again (A,w64 (B+1),C,D,E,List.set (List.set F (w64 (B+1)).toNat (w64 (y2+(w64 (Int.tdiv y3 1000000))))) B.toNat (Int.tmod y4 1000000),())
 else
  some (.inr (C,D,E,F,()))
def w6 (a0:aO) (a1:aO):Option (aO×Unit):=
 let n1:Int:=w64 ((w64 (((a0.2.length:Int))+((a1.2.length:Int))))+1)
 chk (decide (0≤n1)&&decide (n1≤n1)&&decide ((8:Int)*n1≤281474976710656)&&decide (n1≤9223372036854775807)) <|
 aI (
  iter (X:=yO) (β:=yM) (a0.2.length+(Int.natAbs ((a0.2.length:Int))+(Int.natAbs (0:Int)+(a1.2.length+(List.length ([]:List Int)+(List.length ((List.replicate (Int.toNat n1) 0):List Int)+2)))))) (a0.2,(a0.2.length:Int),0,a1.1,a1.2,false,[], !(a0.1==a1.1),List.replicate (Int.toNat n1) 0,()) (yK)) fun (A,B,C,D,_)=>
 aI (
  iter (X:=xb) (β:=w9) (Int.natAbs (w64 (((D.length:Int)) - 1))+(Int.natAbs (0:Int)+(B.length+(D.length+2)))) (w64 (((D.length:Int)) - 1),0,A,B,C,D,()) (w8)) fun v21=>
 (qn (v21.2.2.1,v21.2.2.2.1)).bind fun r22=>
 some (r22.1,())
abbrev CQ:Type:=Int×Int×Bool×(List Int)×Bool×(List Int)×Unit
abbrev CP:Type:=((aO×Unit) ⊕ (Bool×(List Int)×Bool×(List Int)×Unit))
def CO (x1:CQ) (again:CQ→Option CP):Option CP:=
 match x1 with
 | (A,B,C,D,E,F,_)=>
 bif decide (B<A) then
  (Qh 10).bind fun r2=>
  (w6 (E,F) r2.1).bind fun r3=>
  again (A,w64 (B+1),C,D,r3.1.1,r3.1.2,())
 else
  some (.inr (C,D,E,F,()))
def Mc (a0:Int):Option (aO×Unit):=
 (Qh 1).bind fun r1=>
 aI (
  iter (X:=CQ) (β:=CP) (a0.natAbs+(Int.natAbs (0:Int)+(List.length ([]:List Int)+(r1.1.2.length+2)))) (a0,0,false,[],r1.1.1,r1.1.2,()) (CO)) fun v5=>
 some ((v5.2.2.1,v5.2.2.2.1),())
def Fv (a0:ah) (a1:Int):Option (aO×Unit):=
 (Qh a0.1).bind fun r1=>
 (Mc (w64 (a1 - a0.2))).bind fun r2=>
 (w6 r1.1 r2.1).bind fun r3=>
 some (r3.1,())
abbrev CS:Type:=(List Int)×(List Int)×Int×Unit
abbrev CR:Type:=((Int×Unit) ⊕ Unit)
def yg (x1:CS) (again:CS→Option CR):Option CR:=
 match x1 with
 | (A,B,C,_)=>
 bif decide (C≥0) then
  (idx A C).bind fun y2=>
  (idx B C).bind fun y3=>
  bif y2 != y3 then
   (idx A C).bind fun y4=>
   (idx B C).bind fun y5=>
   some (.inl (w64 (y4 - y5),()))
  else
   again (A,B,w64 (C - 1),())
 else
  some (.inr ())
def Me (a0:List Int) (a1:List Int):Option (Int×Unit):=
 bif ((a0.length:Int)) != ((a1.length:Int)) then
  some (w64 (((a0.length:Int)) - ((a1.length:Int))),())
 else
  aI (
   iter (X:=CS) (β:=CR) (a0.length+(a1.length+(Int.natAbs (w64 (((a0.length:Int)) - 1))+2))) (a0,a1,w64 (((a0.length:Int)) - 1),()) (yg)) fun _=>
  some (0,())
def Cp (a0:List Int) (a1:Int):Option (Int×Unit):=
 bif decide (a1<((a0.length:Int))) then
  (idx a0 a1).bind fun y1=>
  some (y1,())
 else
  some (0,())
abbrev AS:Type:=Int×Int×Int×Bool×(List Int)×Bool×(List Int)×Bool×(List Int)×Bool×(List Int)×Unit
abbrev AR:Type:=((aO×Unit) ⊕ (Bool×(List Int)×Bool×(List Int)×Unit))
def AQ (x1:AS) (again:AS→Option AR):Option AR:=
 match x1 with
 | (A,B,C,D,E,F,G,H,I,J,K,_)=>
 bif decide (C<B) then
  (idx E C).bind fun y2=>
  (Cp G C).bind fun r3=>
  aI (γ:=(Int×Int×Int×Int×Bool×(List Int)×Bool×(List Int)×Bool×(List Int)×Bool×(List Int)×Unit)) (
   bif decide ((w64 ((w64 (y2 - r3.1)) - A))<0) then
    let n4:Int:=w64 ((w64 ((w64 (y2 - r3.1)) - A))+1000000)
    some (.inr (1,n4,B,C,D,E,F,G,H,I,J,K,()))
   else
    some (.inr (0,w64 ((w64 (y2 - r3.1)) - A),B,C,D,E,F,G,H,I,J,K,()))) fun (L,M,N,O,P,Q,R,S,T,U,V,W,_)=>
  chk (decide (((W.length)+1)*8≤140737488355328)&&decide ((W.length)+1≤maxLen)) <|
  again (L,N,w64 (O+1),P,Q,R,S,T,U,V,W++[M],())
 else
  some (.inr (H,I,J,K,()))
abbrev CN:Type:=Int×Int×Int×Bool×(List Int)×Bool×(List Int)×Bool×(List Int)×Bool×(List Int)×Unit
abbrev CM:Type:=((aO×Unit) ⊕ (Bool×(List Int)×Bool×(List Int)×Unit))
def CL (x1:CN) (again:CN→Option CM):Option CM:=
 match x1 with
 | (A,B,C,D,E,F,G,H,I,J,K,_)=>
 bif decide (C<B) then
  (Cp E C).bind fun r2=>
  (Cp G C).bind fun r3=>
  let n4:Int:=Int.tmod (w64 ((w64 (r2.1+r3.1))+A)) 1000000
  chk (decide (((K.length)+1)*8≤140737488355328)&&decide ((K.length)+1≤maxLen)) <|
  let n5:Int:=w64 (Int.tdiv (w64 ((w64 (r2.1+r3.1))+A)) 1000000)
  again (n5,B,w64 (C+1),D,E,F,G,H,I,J,K++[n4],())
 else
  some (.inr (H,I,J,K,()))
def Qi (a0:aO) (a1:aO):Option (aO×Unit):=
 bif !(a0.1==a1.1) then
  (Me a0.2 a1.2).bind fun r1=>
  aI (γ:=(Bool×(List Int)×Bool×(List Int)×Bool×(List Int)×Unit)) (
   bif decide (r1.1<0) then
    some (.inr (a1.1,a1.2,a0.1,a0.2,false,[],()))
   else
    some (.inr (a0.1,a0.2,a1.1,a1.2,false,[],()))) fun (A,B,C,D,E,F,_)=>
  aI (
   iter (X:=AS) (β:=AR) (Int.natAbs (0:Int)+(Int.natAbs ((B.length:Int))+(Int.natAbs (0:Int)+(B.length+(D.length+(F.length+(List.length ([]:List Int)+2))))))) (0,(B.length:Int),0,A,B,C,D,E,F,A,[],()) (AQ)) fun v8=>
  (qn (v8.2.2.1,v8.2.2.2.1)).bind fun r9=>
  some (r9.1,())
 else
  let n10:Int:=w64 ((if ((a1.2.length:Int))>((a0.2.length:Int)) then ((a1.2.length:Int)) else ((a0.2.length:Int)))+1)
  aI (
   iter (X:=CN) (β:=CM) (Int.natAbs (0:Int)+(n10.natAbs+(Int.natAbs (0:Int)+(a0.2.length+(a1.2.length+(List.length ([]:List Int)+(List.length ([]:List Int)+2))))))) (0,n10,0,a0.1,a0.2,a1.1,a1.2,false,[],a0.1,[],()) (CL)) fun v16=>
  (qn (v16.2.2.1,v16.2.2.2.1)).bind fun r17=>
  some (r17.1,())
def Ma (a0:aO):Option (aO×Unit):=
 bif decide (((a0.2.length:Int))>0) then
  some ((!a0.1,a0.2),())
 else
  some (a0,())
def Qj (a0:aO):Option (Int×Unit):=
 bif ((a0.2.length:Int))==0 then
  some (0,())
 else
  bif a0.1 then
   some ((-1),())
  else
   some (1,())
def Pt (a0:aO) (a1:aO):Option (Int×Unit):=
 (Ma a1).bind fun r1=>
 (Qi a0 r1.1).bind fun r2=>
 (Qj r2.1).bind fun r3=>
 some (r3.1,())
end Go.Md
namespace Go.Md
open Go.Dn
abbrev GX:Type:=Bys×Int×Int×Unit
abbrev GW:Type:=((Bool×Unit) ⊕ Unit)
def AT (x1:GX) (again:GX→Option GW):Option GW:=
 match x1 with
 | (A,B,C,_)=>
 bif decide (C<B) then
  (vV A C).bind fun c2=>
  bif decide ((c2.toNat:Int)<97) then
   bif decide ((c2.toNat:Int)<48) then
    bif (c2.toNat:Int) != 45 then
     some (.inl (false,()))
    else
     again (A,B,w64 (C+1),())
   else
    bif decide ((c2.toNat:Int)>57) then
     bif (c2.toNat:Int) != 45 then
      some (.inl (false,()))
     else
      again (A,B,w64 (C+1),())
    else
     again (A,B,w64 (C+1),())
  else
   bif decide ((c2.toNat:Int)>122) then
    bif decide ((c2.toNat:Int)<48) then
     bif (c2.toNat:Int) != 45 then
      some (.inl (false,()))
     else
      again (A,B,w64 (C+1),())
    else
     bif decide ((c2.toNat:Int)>57) then
      bif (c2.toNat:Int) != 45 then
       some (.inl (false,()))
      else
       again (A,B,w64 (C+1),())
     else
      again (A,B,w64 (C+1),())
   else
    again (A,B,w64 (C+1),())
 else
  some (.inr ())
def Pu (a0:Bys):Option (Bool×Unit):=
 bif a0==[] then
  some (false,())
 else
  bif decide (((a0.length:Int))>40) then
   some (false,())
  else
   (vV a0 0).bind fun c1=>
   bif decide ((c1.toNat:Int)<97) then
    some (false,())
   else
    (vV a0 0).bind fun c2=>
    bif decide ((c2.toNat:Int)>122) then
     some (false,())
    else
     aI (
      iter (X:=GX) (β:=GW) (a0.length+(Int.natAbs ((a0.length:Int))+(Int.natAbs (0:Int)+2))) (a0,(a0.length:Int),0,()) (AT)) fun _=>
     some (true,())
def nI (a0:Bys):Option (Bool×Unit):=
 (Pu a0).bind fun r1=>
 some (r1.1,())
def zQ (a0:Int) (a1:Int) (a2:Int):Option (Bool×Unit):=
 bif decide (a1≤a0) then
  some (decide (a0≤a2),())
 else
  some (false,())
def SA (a0:Int):Option (Bool×Unit):=
 (zQ a0 1 3652059).bind fun r1=>
 some (r1.1,())
def zk (a0:Int):Option (Bool×Unit):=
 (SA a0).bind fun r1=>
 some (r1.1,())
def mz (a0:ah):Option (Int×Unit):=
 (zQ a0.1 (-1000000000000000) 1000000000000000).bind fun r1=>
 bif !r1.1 then
  some (1,())
 else
  (zQ a0.2 0 9).bind fun r2=>
  bif !r2.1 then
   some (1,())
  else
   some (0,())
def aa6 (a0:ah) (a1:ah):Option (Int×Unit):=
 (Fv a0 9).bind fun r1=>
 (Fv a1 9).bind fun r2=>
 (Pt r1.1 r2.1).bind fun r3=>
 some (r3.1,())
abbrev AP:Type:=Int×Int×Int×Int×Unit
abbrev AO:Type:=((ah×Unit) ⊕ (Int×Int×Int×Int×Unit))
def AN (x1:AP) (again:AP→Option AO):Option AO:=
 match x1 with
 | (A,B,C,D,_)=>
 bif decide (B>0) then
  bif (Int.tmod A 10)==0 then
   again (w64 (Int.tdiv A 10),w64 (B - 1),C,D,())
  else
   some (.inr (A,B,C,D,()))
 else
  some (.inr (A,B,C,D,()))
def gU (a0:ah):Option (ah×Unit):=
 aI (
  iter (X:=AP) (β:=AO) (a0.1.natAbs+(a0.2.natAbs+(Int.natAbs (0:Int)+(Int.natAbs (0:Int)+2)))) (a0.1,a0.2,0,0,()) (AN)) fun v2=>
 some ((v2.1,v2.2.1),())
end Go.Md
