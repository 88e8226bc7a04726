/-
  The plain models of the functions that the law reaches, first part. No condition.
-/
import Derived.Test.YtfghdjdpccoleabGreatDoorYd
import Derived.Lib.SlTrimSet
namespace Go.Md
open Go.Dn
abbrev Bys:Type:=List UInt8
def mH (s c:Bys):Option (Bys×Unit):=
 bif decide (s.length<=9223372036854775807)&&(decide (c.length<4294967281)&&c.all fun b=>decide (b.toNat<128)) then some (Lib.trimS s c,()) else none
abbrev bN:Ty:=(.st (.pair tI tI))
abbrev ax:Type:=Int×Int
abbrev U7:Type:=Int×ax×(List Bys)
abbrev aC:Ty:=(.st (.pair .bool (.slice tI)))
abbrev ai:Type:=Bool×(List Int)
abbrev s8:Type:=Bys×Int×ax×Int×Int×Int
abbrev ve:Type:=s8×Int×Int×Int×Int
abbrev aR:Ty:=(.st (.pair .bool (.slice (.int .u32))))
abbrev aB:Type:=Bool×(List Int)
def ij (a0:Bys):Option (Bool×Unit):=
 bif decide (((a0.length:Int))<1) then
  some (false,())
 else
  bif decide (((a0.length:Int))>40) then
   some (false,())
  else
   (sj a0 0).bind fun c1=>
   bif decide ((c1.toNat:Int)<97) then
    some (false,())
   else
    (sj a0 0).bind fun c2=>
    bif decide ((c2.toNat:Int)>122) then
     some (false,())
    else
     (mH a0 [97,98,99,100,101,102,103,104,105,106,107,108,109,110,111,112,113,114,115,116,117,118,119,120,121,122,48,49,50,51,52,53,54,55,56,57,45]).bind fun r3=>
     some (r3.1==[],())
def nP (a0:Int) (a1:Int) (a2:Int):Option (Bool×Unit):=
 bif decide (a0<a1) then
  some (true,())
 else
  some (decide (a0>a2),())
def Ht (a0:Int):Option (Bool×Unit):=
 (nP a0 1 3652059).bind fun r1=>
 some (!r1.1,())
def lu (a0:ax):Option (Int×Unit):=
 (nP a0.1 (-1000000000000000) 1000000000000000).bind fun r1=>
 bif r1.1 then
  some (1,())
 else
  (nP a0.2 0 9).bind fun r2=>
  bif r2.1 then
   some (1,())
  else
   some (0,())
abbrev zB:Type:=Int×Int×Int×Unit
abbrev zA:Type:=((Int×Unit) ⊕ (Int×Unit))
def zz (x1:zB) (again:zB->Option zA):Option zA:=
 bif decide (x1.2.2.1<x1.2.1) then
  again (w64 (x1.1*10),x1.2.1,w64 (x1.2.2.1+1),())
 else
  some (.inr (x1.1,()))
def Q4 (a0:Int):Option (Int×Unit):=
 aJ (
  iter (X:=zB) (β:=zA) (Int.natAbs (1:Int)+(a0.natAbs+(Int.natAbs (0:Int)+2))) (1,a0,0,()) (zz)) fun v2=>
 some (v2.1,())
abbrev oC:Type:=(List Int)×Unit
abbrev AD:Type:=(((List Int)×Unit) ⊕ ((List Int)×Unit))
def AA (x1:oC) (again:oC->Option AD):Option AD:=
 bif decide (((x1.1.length:Int))>0) then
  (idx x1.1 (w64 (((x1.1.length:Int)) - 1))).bind fun y2=>
  bif y2==0 then
   chk (decide (0<=(0:Int))&&decide ((0:Int)<=(w64 (((x1.1.length:Int)) - 1)))&&decide ((w64 (((x1.1.length:Int)) - 1))<=(x1.1.length:Int))) <|
   again (List.drop 0 (List.take (Int.toNat (w64 (((x1.1.length:Int)) - 1))) x1.1),())
  else
   some (.inr (x1.1,()))
 else
  some (.inr (x1.1,()))
def pT (a0:List Int):Option ((List Int)×Unit):=
 aJ (
  iter (X:=oC) (β:=AD) (a0.length+2) (a0,()) (AA)) fun v3=>
 some (v3.1,())
def iG (a0:Bool) (a1:List Int):Option (aB×Unit):=
 (pT a1).bind fun r1=>
 bif a0 then
  some ((decide (((r1.1.length:Int))>0),r1.1),())
 else
  some ((false,r1.1),())
def rz (a0:Int):Option (aB×Unit):=
 aJ (γ:=(Int×Int×Bool×(List Int)×Unit)) (
  bif decide (a0<0) then
   some (.inr (a0,bS (0 - (bS a0)),false,[],()))
  else
   some (.inr (a0,bS a0,false,[],()))) fun v1=>
 (iG (decide (v1.1<0)) [(nc v1.2.1),(nc (Int.fdiv v1.2.1 (2 ^ 32)))]).bind fun r2=>
 some (r2.1,())
abbrev xN:Type:=(List Int)×(List Int)×Int×(List Int)×Int×Int×Unit
abbrev xM:Type:=(((List Int)×Unit) ⊕ ((List Int)×Int×Unit))
def xL (x1:xN) (again:xN->Option xM):Option xM:=
 match x1 with
 | (A,B,C,D,E,F,_)=>
 bif decide (F<E) then
  (idx D F).bind fun y2=>
  aJ (γ:=((List Int)×(List Int)×Int×(List Int)×Int×Int×Unit)) (
   bif decide (F<((A.length:Int))) then
    (idx A F).bind fun y3=>
    let n4:Int:=bS ((bS (C+(bS y2)))+(bS y3))
    some (.inr (A,B,n4,D,E,F,()))
   else
    some (.inr (A,B,bS (C+(bS y2)),D,E,F,()))) fun (G,H,I,J,K,L,_)=>
  chk (decide (((H.length)+1)*4<=140737488355328)&&decide ((H.length)+1<=maxLen)) <|
  again (G,H++[(nc I)],Int.fdiv I (2 ^ 32),J,K,w64 (L+1),())
 else
  some (.inr (B,C,()))
def Eg (a0:List Int) (a1:List Int):Option ((List Int)×Unit):=
 aJ (γ:=((List Int)×(List Int)×Unit)) (
  bif decide (((a0.length:Int))<((a1.length:Int))) then
   some (.inr (a1,a0,()))
  else
   some (.inr (a0,a1,()))) fun (A,B,_)=>
 chk (decide (0<=(0:Int))&&decide ((0:Int)<=(w64 (((A.length:Int))+1)))&&decide ((4:Int)*(w64 (((A.length:Int))+1))<=281474976710656)&&decide ((w64 (((A.length:Int))+1))<=9223372036854775807)) <|
 aJ (
  iter (X:=xN) (β:=xM) (B.length+(List.length ([]:List Int)+(Int.natAbs (0:Int)+(A.length+(Int.natAbs ((A.length:Int))+(Int.natAbs (0:Int)+2)))))) (B,[],0,A,(A.length:Int),0,()) (xL)) fun (C,D,_)=>
 chk (decide (((C.length)+1)*4<=140737488355328)&&decide ((C.length)+1<=maxLen)) <|
 some (C++[(nc D)],())
abbrev uF:Type:=(List Int)×(List Int)×Int×Unit
abbrev uD:Type:=((Int×Unit) ⊕ Unit)
def oB (x1:uF) (again:uF->Option uD):Option uD:=
 match x1 with
 | (A,B,C,_)=>
 bif decide (C>=0) then
  (idx A C).bind fun y2=>
  (idx B C).bind fun y3=>
  bif y2 != y3 then
   (idx A C).bind fun y4=>
   (idx B C).bind fun y5=>
   bif decide (y4<y5) then
    some (.inl ((-1),()))
   else
    some (.inl (1,()))
  else
   again (A,B,w64 (C - 1),())
 else
  some (.inr ())
def u9 (a0:List Int) (a1:List Int):Option (Int×Unit):=
 bif ((a0.length:Int)) != ((a1.length:Int)) then
  some (w64 (((a0.length:Int)) - ((a1.length:Int))),())
 else
  aJ (
   iter (X:=uF) (β:=uD) (a0.length+(a1.length+(Int.natAbs (w64 (((a0.length:Int)) - 1))+2))) (a0,a1,w64 (((a0.length:Int)) - 1),()) (oB)) fun _=>
  some (0,())
abbrev Ab:Type:=(List Int)×(List Int)×Int×(List Int)×Int×Int×Unit
abbrev Aa:Type:=(((List Int)×Unit) ⊕ ((List Int)×Unit))
def z8 (x1:Ab) (again:Ab->Option Aa):Option Aa:=
 match x1 with
 | (A,B,C,D,E,F,_)=>
 bif decide (F<E) then
  (idx D F).bind fun y2=>
  aJ (γ:=((List Int)×(List Int)×Int×(List Int)×Int×Int×Unit)) (
   bif decide (F<((A.length:Int))) then
    (idx A F).bind fun y3=>
    let n4:Int:=bS ((bS ((bS y2) - C)) - (bS y3))
    some (.inr (A,B,n4,D,E,F,()))
   else
    some (.inr (A,B,bS ((bS y2) - C),D,E,F,()))) fun (G,H,I,J,K,L,_)=>
  chk (decide (((H.length)+1)*4<=140737488355328)&&decide ((H.length)+1<=maxLen)) <|
  again (G,H++[(nc I)],bS (((BitVec.ofInt (IntKind.bits .u64) (Int.fdiv I (2 ^ 32)) &&& BitVec.ofInt (IntKind.bits .u64) 1).toNat:Int)),J,K,w64 (L+1),())
 else
  some (.inr (B,()))
def yA (a0:List Int) (a1:List Int):Option ((List Int)×Unit):=
 chk (decide (0<=(0:Int))&&decide ((0:Int)<=((a0.length:Int)))&&decide ((4:Int)*((a0.length:Int))<=281474976710656)&&decide (((a0.length:Int))<=9223372036854775807)) <|
 aJ (
  iter (X:=Ab) (β:=Aa) (a1.length+(List.length ([]:List Int)+(Int.natAbs (0:Int)+(a0.length+(Int.natAbs ((a0.length:Int))+(Int.natAbs (0:Int)+2)))))) (a1,[],0,a0,(a0.length:Int),0,()) (z8)) fun v6=>
 (pT v6.1).bind fun r7=>
 some (r7.1,())
abbrev wI:Type:=(List Int)×Int×Bool×(List Int)×Bool×(List Int)×Bool×(List Int)×Bool×(List Int)×(List Int)×Unit
abbrev wH:Type:=((aB×aB×Unit) ⊕ ((List Int)×Bool×(List Int)×Bool×(List Int)×(List Int)×Unit))
def wG (x1:wI) (again:wI->Option wH):Option wH:=
 match x1 with
 | (A,B,C,D,E,F,G,H,I,J,K,_)=>
 bif decide (B>=0) then
  (Eg A A).bind fun r2=>
  chk (decide (0<=(0:Int))&&decide ((0:Int)<(r2.1.length:Int))) <|
  (r2.1[0]?).bind fun y3=>
  (idx D (w64 (Int.tdiv B 32))).bind fun y4=>
  chk (decide (0<=(Int.tmod B 32))) <|
  let n5:Int:=nc (((BitVec.ofInt (IntKind.bits .u32) (Int.fdiv y4 (2 ^ (min (Int.toNat (Int.tmod B 32)) (IntKind.bits .u32)))) &&& BitVec.ofInt (IntKind.bits .u32) 1).toNat:Int))
  chk (decide (0<=(0:Int))&&decide ((0:Int)<(r2.1.length:Int))) <|
  (r2.1[0]?).bind fun _=>
  (pT (List.set r2.1 0 (nc (((BitVec.ofInt (IntKind.bits .u32) y3 ||| BitVec.ofInt (IntKind.bits .u32) n5).toNat:Int))))).bind fun r6=>
  (u9 r6.1 F).bind fun r7=>
  bif decide (r7.1>=0) then
   (yA r6.1 F).bind fun r8=>
   chk (decide (0<=(w64 (Int.tdiv B 32)))&&decide ((w64 (Int.tdiv B 32))<(K.length:Int))) <|
   (K[(w64 (Int.tdiv B 32)).toNat]?).bind fun y9=>
   chk (decide (0<=(Int.tmod B 32))) <|
   let n10:Int:=nc (((BitVec.ofInt (IntKind.bits .u32) y9 ||| BitVec.ofInt (IntKind.bits .u32) (nc (1*2 ^ (min (Int.toNat (Int.tmod B 32)) (IntKind.bits .u32))))).toNat:Int))
   chk (decide (0<=(w64 (Int.tdiv B 32)))&&decide ((w64 (Int.tdiv B 32))<(K.length:Int))) <|
   (K[(w64 (Int.tdiv B 32)).toNat]?).bind fun _=>
   again (r8.1,w64 (B - 1),C,D,E,F,G,H,I,J,List.set K (w64 (Int.tdiv B 32)).toNat n10,())
  else
   again (r6.1,w64 (B - 1),C,D,E,F,G,H,I,J,K,())
 else
  some (.inr (A,G,H,I,J,K,()))
def xI (a0:aB) (a1:aB):Option (aB×aB×Unit):=
 chk (decide (0<=((a0.2.length:Int)))&&decide (((a0.2.length:Int))<=((a0.2.length:Int)))&&decide ((4:Int)*((a0.2.length:Int))<=281474976710656)&&decide (((a0.2.length:Int))<=9223372036854775807)) <|
 let n1:Int:=w64 ((w64 (((a0.2.length:Int))*32)) - 1)
 aJ (
  iter (X:=wI) (β:=wH) (List.length ([]:List Int)+(n1.natAbs+(a0.2.length+(a1.2.length+(List.length ([]:List Int)+(List.length ([]:List Int)+(List.length ((List.replicate (Int.toNat ((a0.2.length:Int))) 0):List Int)+2))))))) ([],n1,a0.1,a0.2,a1.1,a1.2,false,[],false,[],List.replicate (Int.toNat ((a0.2.length:Int))) 0,()) (wG)) fun v14=>
 (iG false v14.2.2.2.2.2.1).bind fun r15=>
 (iG false v14.1).bind fun r16=>
 some (r15.1,r16.1,())
def jH (a0:aB):Option (Int×Unit):=
 bif a0.1 then
  some ((-1),())
 else
  bif ((a0.2.length:Int))==0 then
   some (0,())
  else
   some (1,())
def qS (a0:aB):Option (aB×Unit):=
 (iG (!a0.1) a0.2).bind fun r1=>
 some (r1.1,())
abbrev uC:Type:=Int×Int×(List Int)×Int×Int×Bool×(List Int)×Unit
abbrev uB:Type:=((Int×Bool×Unit) ⊕ (Int×Int×Bool×(List Int)×Unit))
def uA (x1:uC) (again:uC->Option uB):Option uB:=
 match x1 with
 | (A,B,C,D,E,F,G,_)=>
 bif decide (E<D) then
  (idx C E).bind fun y2=>
  chk (decide (0<=(w64 (32*E)))) <|
  let n3:Int:=bS ((bS y2)*2 ^ (min (Int.toNat (w64 (32*E))) (IntKind.bits .u64)))
  again (A,bS (((BitVec.ofInt (IntKind.bits .u64) B ||| BitVec.ofInt (IntKind.bits .u64) n3).toNat:Int)),C,D,w64 (E+1),F,G,())
 else
  some (.inr (A,B,F,G,()))
def z7 (a0:aB) (a1:Int):Option (Int×Bool×Unit):=
 bif decide (((a0.2.length:Int))>2) then
  some (0,false,())
 else
  aJ (
   iter (X:=uC) (β:=uB) (a1.natAbs+(Int.natAbs (0:Int)+(a0.2.length+(Int.natAbs ((a0.2.length:Int))+(Int.natAbs (0:Int)+(a0.2.length+2)))))) (a1,0,a0.2,(a0.2.length:Int),0,a0.1,a0.2,()) (uA)) fun (A,B,C,_,_)=>
  bif decide (B>(bS A)) then
   some (0,false,())
  else
   bif C then
    some (w64 (0 - (w64 B)),true,())
   else
    some (w64 B,true,())
def yT (a0:aB) (a1:Int):Option (ax×Int×Unit):=
 (z7 a0 1000000000000000).bind fun r1=>
 bif !r1.2.1 then
  some ((0,0),1,())
 else
  some ((r1.1,a1),0,())
abbrev tu:Type:=Int×Bool×(List Int)×Int×Int×Bool×(List Int)×Unit
abbrev tq:Type:=((ax×Int×Unit) ⊕ (Int×Bool×(List Int)×Int×Int×Unit))
def tj (x1:tu) (again:tu->Option tq):Option tq:=
 match x1 with
 | (A,B,C,D,E,F,G,_)=>
 bif decide (A>0) then
  (xI (B,C) (F,G)).bind fun r2=>
  (jH r2.2.1).bind fun r3=>
  bif r3.1 != 0 then
   some (.inr (A,B,C,D,E,()))
  else
   (jH (B,C)).bind fun r4=>
   bif decide (r4.1<0) then
    (qS r2.1).bind fun r5=>
    again (w64 (A - 1),r5.1.1,r5.1.2,D,E,F,G,())
   else
    again (w64 (A - 1),r2.1.1,r2.1.2,D,E,F,G,())
 else
  some (.inr (A,B,C,D,E,()))
def zx (a0:aB) (a1:Int):Option (ax×Int×Unit):=
 (rz 10).bind fun r1=>
 aJ (
  iter (X:=tu) (β:=tq) (a1.natAbs+(a0.2.length+(Int.natAbs (0:Int)+(Int.natAbs (0:Int)+(r1.1.2.length+2))))) (a1,a0.1,a0.2,0,0,r1.1.1,r1.1.2,()) (tj)) fun v7=>
 (yT (v7.2.1,v7.2.2.1) v7.1).bind fun r8=>
 some (r8.1,r8.2.1,())
abbrev Gr:Type:=Int×Bool×(List Int)×Bool×(List Int)×Unit
abbrev Gq:Type:=((ai×Unit) ⊕ (Bool×(List Int)×Bool×(List Int)×Unit))
def Ao (x1:Gr) (again:Gr->Option Gq):Option Gq:=
 match x1 with
 | (A,B,C,D,E,_)=>
 bif A != 0 then
  chk (decide (((E.length)+1)*8<=140737488355328)&&decide ((E.length)+1<=maxLen)) <|
  again (w64 (Int.tdiv A 1000000),B,C,D,E++[(if (w64 (0 - (Int.tmod A 1000000)))>(Int.tmod A 1000000) then (w64 (0 - (Int.tmod A 1000000))) else (Int.tmod A 1000000))],())
 else
  some (.inr (B,C,D,E,()))
def BN (a0:Int):Option (ai×Unit):=
 aJ (
  iter (X:=Gr) (β:=Gq) (a0.natAbs+(List.length ([]:List Int)+(List.length ([]:List Int)+2))) (a0,false,[],decide (a0<0),[],()) (Ao)) fun v2=>
 some ((v2.2.2.1,v2.2.2.2.1),())
abbrev uX:Type:=Bool×(List Int)×Bool×(List Int)×Unit
abbrev EC:Type:=((ai×Unit) ⊕ (Bool×(List Int)×Bool×(List Int)×Unit))
def EB (x1:uX) (again:uX->Option EC):Option EC:=
 match x1 with
 | (A,B,C,D,_)=>
 bif decide (((B.length:Int))>0) then
  (idx B (w64 (((B.length:Int)) - 1))).bind fun y2=>
  bif y2==0 then
   chk (decide (0<=(0:Int))&&decide ((0:Int)<=(w64 (((B.length:Int)) - 1)))&&decide ((w64 (((B.length:Int)) - 1))<=(B.length:Int))) <|
   again (A,List.drop 0 (List.take (Int.toNat (w64 (((B.length:Int)) - 1))) B),C,D,())
  else
   some (.inr (A,B,C,D,()))
 else
  some (.inr (A,B,C,D,()))
def nK (a0:ai):Option (ai×Unit):=
 aJ (
  iter (X:=uX) (β:=EC) (a0.2.length+(List.length ([]:List Int)+2)) (a0.1,a0.2,false,[],()) (EB)) fun v3=>
 bif ((v3.2.1.length:Int))==0 then
  some ((false,v3.2.1),())
 else
  some ((v3.1,v3.2.1),())
abbrev zW:Type:=Int×Int×(List Int)×Int×Int×(List Int)×Int×Int×Bool×(List Int)×Bool×(List Int)×Bool×(List Int)×Unit
abbrev zU:Type:=(((ai×Unit) ⊕ (Bool×(List Int)×Bool×(List Int)×Unit)) ⊕ ((List Int)×Int×Int×Bool×(List Int)×Bool×(List Int)×Bool×(List Int)×Unit))
def zS (x1:zW) (again:zW->Option zU):Option zU:=
 match x1 with
 | (A,B,C,D,E,F,G,H,I,J,K,L,M,N,_)=>
 bif decide (H<G) then
  (idx F H).bind fun y2=>
  chk (decide (0<=(w64 (A+H)))&&decide ((w64 (A+H))<(N.length:Int))) <|
  (N[(w64 (A+H)).toNat]?).bind fun y3=>
  chk (decide (0<=(w64 (A+H)))&&decide ((w64 (A+H))<(N.length:Int))) <|
  (N[(w64 (A+H)).toNat]?).bind fun _=>
  chk (decide (0<=(w64 ((w64 (A+H))+1)))&&decide ((w64 ((w64 (A+H))+1))<(List.length (List.set N (w64 (A+H)).toNat (w64 (y3+(w64 (B*y2))))):Int))) <|
  ((List.set N (w64 (A+H)).toNat (w64 (y3+(w64 (B*y2)))))[(w64 ((w64 (A+H))+1)).toNat]?).bind fun y4=>
  chk (decide (0<=(w64 (A+H)))&&decide ((w64 (A+H))<(List.length (List.set N (w64 (A+H)).toNat (w64 (y3+(w64 (B*y2))))):Int))) <|
  ((List.set N (w64 (A+H)).toNat (w64 (y3+(w64 (B*y2)))))[(w64 (A+H)).toNat]?).bind fun y5=>
  chk (decide (0<=(w64 ((w64 (A+H))+1)))&&decide ((w64 ((w64 (A+H))+1))<(List.length (List.set N (w64 (A+H)).toNat (w64 (y3+(w64 (B*y2))))):Int))) <|
  ((List.set N (w64 (A+H)).toNat (w64 (y3+(w64 (B*y2)))))[(w64 ((w64 (A+H))+1)).toNat]?).bind fun _=>
  chk (decide (0<=(w64 (A+H)))&&decide ((w64 (A+H))<(List.length (List.set (List.set N (w64 (A+H)).toNat (w64 (y3+(w64 (B*y2))))) (w64 ((w64 (A+H))+1)).toNat (w64 (y4+(w64 (Int.tdiv y5 1000000))))):Int))) <|
  ((List.set (List.set N (w64 (A+H)).toNat (w64 (y3+(w64 (B*y2))))) (w64 ((w64 (A+H))+1)).toNat (w64 (y4+(w64 (Int.tdiv y5 1000000)))))[(w64 (A+H)).toNat]?).bind fun y6=>
  chk (decide (0<=(w64 (A+H)))&&decide ((w64 (A+H))<(List.length (List.set (List.set N (w64 (A+H)).toNat (w64 (y3+(w64 (B*y2))))) (w64 ((w64 (A+H))+1)).toNat (w64 (y4+(w64 (Int.tdiv y5 1000000))))):Int))) <|
  ((List.set (List.set N (w64 (A+H)).toNat (w64 (y3+(w64 (B*y2))))) (w64 ((w64 (A+H))+1)).toNat (w64 (y4+(w64 (Int.tdiv y5 1000000)))))[(w64 (A+H)).toNat]?).bind fun _=>
  again (A,B,C,D,E,F,G,w64 (H+1),I,J,K,L,M,List.set (List.set (List.set N (w64 (A+H)).toNat (w64 (y3+(w64 (B*y2))))) (w64 ((w64 (A+H))+1)).toNat (w64 (y4+(w64 (Int.tdiv y5 1000000))))) (w64 (A+H)).toNat (Int.tmod y6 1000000),())
 else
  some (.inr (C,D,E,I,J,K,L,M,N,()))
abbrev zV:Type:=(List Int)×Int×Int×Bool×(List Int)×Bool×(List Int)×Bool×(List Int)×Unit
abbrev zT:Type:=((ai×Unit) ⊕ (Bool×(List Int)×Bool×(List Int)×Unit))
def zR (x1:zV) (again:zV->Option zT):Option zT:=
 match x1 with
 | (A,B,C,D,E,F,G,H,I,_)=>
 bif decide (C<B) then
  (idx A C).bind fun y2=>
  aJ (
   iter (X:=zW) (β:=zU) (C.natAbs+(y2.natAbs+(A.length+(B.natAbs+(C.natAbs+(E.length+(Int.natAbs ((E.length:Int))+(Int.natAbs (0:Int)+(E.length+(G.length+(I.length+2))))))))))) (C,y2,A,B,C,E,(E.length:Int),0,D,E,F,G,H,I,()) (zS)) fun (J,K,L,M,N,O,P,Q,R,_)=>
  again (J,K,w64 (L+1),M,N,O,P,Q,R,())
 else
  some (.inr (F,G,H,I,()))
abbrev yt:Type:=Int×Int×Bool×(List Int)×Bool×(List Int)×Unit
abbrev yq:Type:=((ai×Unit) ⊕ (Bool×(List Int)×Bool×(List Int)×Unit))
def yo (x1:yt) (again:yt->Option yq):Option yq:=
 match x1 with
 | (A,B,C,D,E,F,_)=>
 bif decide (B<A) then
  chk (decide (0<=(w64 (B+1)))&&decide ((w64 (B+1))<(F.length:Int))) <|
  (F[(w64 (B+1)).toNat]?).bind fun y2=>
  chk (decide (0<=B)&&decide (B<(F.length:Int))) <|
  (F[B.toNat]?).bind fun y3=>
  chk (decide (0<=(w64 (B+1)))&&decide ((w64 (B+1))<(F.length:Int))) <|
  (F[(w64 (B+1)).toNat]?).bind fun _=>
  chk (decide (0<=B)&&decide (B<(List.length (List.set F (w64 (B+1)).toNat (w64 (y2+(w64 (Int.tdiv y3 1000000))))):Int))) <|
  ((List.set F (w64 (B+1)).toNat (w64 (y2+(w64 (Int.tdiv y3 1000000)))))[B.toNat]?).bind fun y4=>
  chk (decide (0<=B)&&decide (B<(List.length (List.set F (w64 (B+1)).toNat (w64 (y2+(w64 (Int.tdiv y3 1000000))))):Int))) <|
  ((List.set F (w64 (B+1)).toNat (w64 (y2+(w64 (Int.tdiv y3 1000000)))))[B.toNat]?).bind fun _=>
  again (A,w64 (B+1),C,D,E,List.set (List.set F (w64 (B+1)).toNat (w64 (y2+(w64 (Int.tdiv y3 1000000))))) B.toNat (Int.tmod y4 1000000),())
 else
  some (.inr (C,D,E,F,()))
def qP (a0:ai) (a1:ai):Option (ai×Unit):=
 let n1:Int:=w64 ((w64 (((a0.2.length:Int))+((a1.2.length:Int))))+1)
 chk (decide (0<=n1)&&decide (n1<=n1)&&decide ((8:Int)*n1<=281474976710656)&&decide (n1<=9223372036854775807)) <|
 aJ (
  iter (X:=zV) (β:=zT) (a0.2.length+(Int.natAbs ((a0.2.length:Int))+(Int.natAbs (0:Int)+(a1.2.length+(List.length ([]:List Int)+(List.length ((List.replicate (Int.toNat n1) 0):List Int)+2)))))) (a0.2,(a0.2.length:Int),0,a1.1,a1.2,false,[], !(a0.1==a1.1),List.replicate (Int.toNat n1) 0,()) (zR)) fun (A,B,C,D,_)=>
 aJ (
  iter (X:=yt) (β:=yq) (Int.natAbs (w64 (((D.length:Int)) - 1))+(Int.natAbs (0:Int)+(B.length+(D.length+2)))) (w64 (((D.length:Int)) - 1),0,A,B,C,D,()) (yo)) fun v21=>
 (nK (v21.2.2.1,v21.2.2.2.1)).bind fun r22=>
 some (r22.1,())
abbrev Dv:Type:=Int×Int×Bool×(List Int)×Bool×(List Int)×Unit
abbrev Du:Type:=((ai×Unit) ⊕ (Bool×(List Int)×Bool×(List Int)×Unit))
def Dt (x1:Dv) (again:Dv->Option Du):Option Du:=
 match x1 with
 | (A,B,C,D,E,F,_)=>
 bif decide (B<A) then
  (BN 10).bind fun r2=>
  (qP (E,F) r2.1).bind fun r3=>
  again (A,w64 (B+1),C,D,r3.1.1,r3.1.2,())
 else
  some (.inr (C,D,E,F,()))
def Gs (a0:Int):Option (ai×Unit):=
 (BN 1).bind fun r1=>
 aJ (
  iter (X:=Dv) (β:=Du) (a0.natAbs+(Int.natAbs (0:Int)+(List.length ([]:List Int)+(r1.1.2.length+2)))) (a0,0,false,[],r1.1.1,r1.1.2,()) (Dt)) fun v5=>
 some ((v5.2.2.1,v5.2.2.2.1),())
def Dm (a0:ax) (a1:Int):Option (ai×Unit):=
 (BN a0.1).bind fun r1=>
 (Gs (w64 (a1 - a0.2))).bind fun r2=>
 (qP r1.1 r2.1).bind fun r3=>
 some (r3.1,())
abbrev Dy:Type:=(List Int)×(List Int)×Int×Unit
abbrev Dx:Type:=((Int×Unit) ⊕ Unit)
def zi (x1:Dy) (again:Dy->Option Dx):Option Dx:=
 match x1 with
 | (A,B,C,_)=>
 bif decide (C>=0) then
  (idx A C).bind fun y2=>
  (idx B C).bind fun y3=>
  bif y2 != y3 then
   (idx A C).bind fun y4=>
   (idx B C).bind fun y5=>
   some (.inl (w64 (y4 - y5),()))
  else
   again (A,B,w64 (C - 1),())
 else
  some (.inr ())
def CR (a0:List Int) (a1:List Int):Option (Int×Unit):=
 bif ((a0.length:Int)) != ((a1.length:Int)) then
  some (w64 (((a0.length:Int)) - ((a1.length:Int))),())
 else
  aJ (
   iter (X:=Dy) (β:=Dx) (a0.length+(a1.length+(Int.natAbs (w64 (((a0.length:Int)) - 1))+2))) (a0,a1,w64 (((a0.length:Int)) - 1),()) (zi)) fun _=>
  some (0,())
def CP (a0:List Int) (a1:Int):Option (Int×Unit):=
 bif decide (a1<((a0.length:Int))) then
  (idx a0 a1).bind fun y1=>
  some (y1,())
 else
  some (0,())
abbrev BQ:Type:=Int×Int×Int×Bool×(List Int)×Bool×(List Int)×Bool×(List Int)×Bool×(List Int)×Unit
abbrev BP:Type:=((ai×Unit) ⊕ (Bool×(List Int)×Bool×(List Int)×Unit))
def BO (x1:BQ) (again:BQ->Option BP):Option BP:=
 match x1 with
 | (A,B,C,D,E,F,G,H,I,J,K,_)=>
 bif decide (C<B) then
  (idx E C).bind fun y2=>
  (CP G C).bind fun r3=>
  aJ (γ:=(Int×Int×Int×Int×Bool×(List Int)×Bool×(List Int)×Bool×(List Int)×Bool×(List Int)×Unit)) (
   bif decide ((w64 ((w64 (y2 - r3.1)) - A))<0) then
    let n4:Int:=w64 ((w64 ((w64 (y2 - r3.1)) - A))+1000000)
    some (.inr (1,n4,B,C,D,E,F,G,H,I,J,K,()))
   else
    some (.inr (0,w64 ((w64 (y2 - r3.1)) - A),B,C,D,E,F,G,H,I,J,K,()))) fun (L,M,N,O,P,Q,R,S,T,U,V,W,_)=>
  chk (decide (((W.length)+1)*8<=140737488355328)&&decide ((W.length)+1<=maxLen)) <|
  again (L,N,w64 (O+1),P,Q,R,S,T,U,V,W++[M],())
 else
  some (.inr (H,I,J,K,()))
abbrev Ds:Type:=Int×Int×Int×Bool×(List Int)×Bool×(List Int)×Bool×(List Int)×Bool×(List Int)×Unit
abbrev Dr:Type:=((ai×Unit) ⊕ (Bool×(List Int)×Bool×(List Int)×Unit))
def Dq (x1:Ds) (again:Ds->Option Dr):Option Dr:=
 match x1 with
 | (A,B,C,D,E,F,G,H,I,J,K,_)=>
 bif decide (C<B) then
  (CP E C).bind fun r2=>
  (CP G C).bind fun r3=>
  let n4:Int:=Int.tmod (w64 ((w64 (r2.1+r3.1))+A)) 1000000
  chk (decide (((K.length)+1)*8<=140737488355328)&&decide ((K.length)+1<=maxLen)) <|
  let n5:Int:=w64 (Int.tdiv (w64 ((w64 (r2.1+r3.1))+A)) 1000000)
  again (n5,B,w64 (C+1),D,E,F,G,H,I,J,K++[n4],())
 else
  some (.inr (H,I,J,K,()))
def ym (a0:ai) (a1:ai):Option (ai×Unit):=
 bif !(a0.1==a1.1) then
  (CR a0.2 a1.2).bind fun r1=>
  aJ (γ:=(Bool×(List Int)×Bool×(List Int)×Bool×(List Int)×Unit)) (
   bif decide (r1.1<0) then
    some (.inr (a1.1,a1.2,a0.1,a0.2,false,[],()))
   else
    some (.inr (a0.1,a0.2,a1.1,a1.2,false,[],()))) fun (A,B,C,D,E,F,_)=>
  aJ (
   iter (X:=BQ) (β:=BP) (Int.natAbs (0:Int)+(Int.natAbs ((B.length:Int))+(Int.natAbs (0:Int)+(B.length+(D.length+(F.length+(List.length ([]:List Int)+2))))))) (0,(B.length:Int),0,A,B,C,D,E,F,A,[],()) (BO)) fun v8=>
  (nK (v8.2.2.1,v8.2.2.2.1)).bind fun r9=>
  some (r9.1,())
 else
  let n10:Int:=w64 ((if ((a1.2.length:Int))>((a0.2.length:Int)) then ((a1.2.length:Int)) else ((a0.2.length:Int)))+1)
  aJ (
   iter (X:=Ds) (β:=Dr) (Int.natAbs (0:Int)+(n10.natAbs+(Int.natAbs (0:Int)+(a0.2.length+(a1.2.length+(List.length ([]:List Int)+(List.length ([]:List Int)+2))))))) (0,n10,0,a0.1,a0.2,a1.1,a1.2,false,[],a0.1,[],()) (Dq)) fun v16=>
  (nK (v16.2.2.1,v16.2.2.2.1)).bind fun r17=>
  some (r17.1,())
def An (a0:ai):Option (ai×Unit):=
 bif decide (((a0.2.length:Int))>0) then
  some ((!a0.1,a0.2),())
 else
  some (a0,())
def CO (a0:ai):Option (Int×Unit):=
 bif ((a0.2.length:Int))==0 then
  some (0,())
 else
  bif a0.1 then
   some ((-1),())
  else
   some (1,())
def Gn (a0:ai) (a1:ai):Option (Int×Unit):=
 (An a1).bind fun r1=>
 (ym a0 r1.1).bind fun r2=>
 (CO r2.1).bind fun r3=>
 some (r3.1,())
end Go.Md
namespace Go.Md
open Go.Dn
abbrev Gv:Type:=Bys×Int×Int×Unit
abbrev Gu:Type:=((Bool×Unit) ⊕ Unit)
def BT (x1:Gv) (again:Gv->Option Gu):Option Gu:=
 match x1 with
 | (A,B,C,_)=>
 bif decide (C<B) then
  (sj A C).bind fun c2=>
  bif decide ((c2.toNat:Int)<97) then
   bif decide ((c2.toNat:Int)<48) then
    bif (c2.toNat:Int) != 45 then
     some (.inl (false,()))
    else
     again (A,B,w64 (C+1),())
   else
    bif decide ((c2.toNat:Int)>57) then
     bif (c2.toNat:Int) != 45 then
      some (.inl (false,()))
     else
      again (A,B,w64 (C+1),())
    else
     again (A,B,w64 (C+1),())
  else
   bif decide ((c2.toNat:Int)>122) then
    bif decide ((c2.toNat:Int)<48) then
     bif (c2.toNat:Int) != 45 then
      some (.inl (false,()))
     else
      again (A,B,w64 (C+1),())
    else
     bif decide ((c2.toNat:Int)>57) then
      bif (c2.toNat:Int) != 45 then
       some (.inl (false,()))
      else
       again (A,B,w64 (C+1),())
     else
      again (A,B,w64 (C+1),())
   else
    again (A,B,w64 (C+1),())
 else
  some (.inr ())
def Nn (a0:Bys):Option (Bool×Unit):=
 bif a0==[] then
  some (false,())
 else
  bif decide (((a0.length:Int))>40) then
   some (false,())
  else
   (sj a0 0).bind fun c1=>
   bif decide ((c1.toNat:Int)<97) then
    some (false,())
   else
    (sj a0 0).bind fun c2=>
    bif decide ((c2.toNat:Int)>122) then
     some (false,())
    else
     aJ (
      iter (X:=Gv) (β:=Gu) (a0.length+(Int.natAbs ((a0.length:Int))+(Int.natAbs (0:Int)+2))) (a0,(a0.length:Int),0,()) (BT)) fun _=>
     some (true,())
def sU (a0:Bys):Option (Bool×Unit):=
 (Nn a0).bind fun r1=>
 some (r1.1,())
def sW (a0:Int) (a1:Int) (a2:Int):Option (Bool×Unit):=
 bif decide (a1<=a0) then
  some (decide (a0<=a2),())
 else
  some (false,())
def QB (a0:Int):Option (Bool×Unit):=
 (sW a0 1 3652059).bind fun r1=>
 some (r1.1,())
def KK (a0:Int):Option (Bool×Unit):=
 (QB a0).bind fun r1=>
 some (r1.1,())
def qO (a0:ax):Option (Int×Unit):=
 (sW a0.1 (-1000000000000000) 1000000000000000).bind fun r1=>
 bif !r1.1 then
  some (1,())
 else
  (sW a0.2 0 9).bind fun r2=>
  bif !r2.1 then
   some (1,())
  else
   some (0,())
def Zq (a0:ax) (a1:ax):Option (Int×Unit):=
 (Dm a0 9).bind fun r1=>
 (Dm a1 9).bind fun r2=>
 (Gn r1.1 r2.1).bind fun r3=>
 some (r3.1,())
abbrev BM:Type:=Int×Int×Int×Int×Unit
abbrev BL:Type:=((ax×Unit) ⊕ (Int×Int×Int×Int×Unit))
def BK (x1:BM) (again:BM->Option BL):Option BL:=
 match x1 with
 | (A,B,C,D,_)=>
 bif decide (B>0) then
  bif (Int.tmod A 10)==0 then
   again (w64 (Int.tdiv A 10),w64 (B - 1),C,D,())
  else
   some (.inr (A,B,C,D,()))
 else
  some (.inr (A,B,C,D,()))
def AU (a0:ax):Option (ax×Unit):=
 aJ (
  iter (X:=BM) (β:=BL) (a0.1.natAbs+(a0.2.natAbs+(Int.natAbs (0:Int)+(Int.natAbs (0:Int)+2)))) (a0.1,a0.2,0,0,()) (BK)) fun v2=>
 some ((v2.1,v2.2.1),())
end Go.Md
