/-
  The plain models of the functions that the law reaches, first part. No condition.
-/
import Derived.Test.YtcoofjaonlccjaaGreatDoorVd
import Derived.Lib.SlTrimSet
set_option linter.all false
namespace Go.Md
open Go.Dn
def jC (s c:List UInt8):Option (List UInt8×Unit):=
 bif decide (s.length≤9223372036854775807)&&(decide (c.length<4294967281)&&c.all fun b=>decide (b.toNat<128)) then some (Lib.trimS s c,()) else none
abbrev au:Ty:=(.st (.pair tI tI))
abbrev ah:Type:=Int×Int
abbrev QE:Type:=Int×ah×(List (List UInt8))
abbrev bp:Ty:=(.st (.pair .bool (.slice tI)))
abbrev ay:Type:=Bool×(List Int)
abbrev o9:Type:=(List UInt8)×Int×ah×Int×Int×Int
abbrev qz:Type:=o9×Int×Int×Int×Int
abbrev cH:Ty:=(.st (.pair .bool (.slice (.int .u32))))
abbrev bB:Type:=Bool×(List Int)
def eG (a0:List UInt8):Option (Bool×Unit):=
 bif decide (((List.length a0:Int))<1) then
  some (false,())
 else
  bif decide (((List.length a0:Int))>40) then
   some (false,())
  else
   Option.bind (sG a0 0) fun c1=>
   bif decide ((c1.toNat:Int)<97) then
    some (false,())
   else
    Option.bind (sG a0 0) fun c2=>
    bif decide ((c2.toNat:Int)>122) then
     some (false,())
    else
     Option.bind (jC a0 [97,98,99,100,101,102,103,104,105,106,107,108,109,110,111,112,113,114,115,116,117,118,119,120,121,122,48,49,50,51,52,53,54,55,56,57,45]) fun r3=>
     some (r3.1==[],())
def dF (a0:Int) (a1:Int) (a2:Int):Option (Bool×Unit):=
 bif decide (a0<a1) then
  some (true,())
 else
  some (decide (a0>a2),())
def mS (a0:Int):Option (Bool×Unit):=
 Option.bind (dF a0 1 3652059) fun r1=>
 some (!r1.1,())
def fP (a0:ah):Option (Int×Unit):=
 Option.bind (dF a0.1 (-1000000000000000) 1000000000000000) fun r1=>
 bif r1.1 then
  some (1,())
 else
  Option.bind (dF a0.2 0 9) fun r2=>
  bif r2.1 then
   some (1,())
  else
   some (0,())
abbrev u5:Type:=Int×Int×Int×Unit
abbrev uZ:Type:=((Int×Unit) ⊕ (Int×Unit))
def uY (x1:u5) (again:u5→Option uZ):Option uZ:=
 bif decide (x1.2.2.1<x1.2.1) then
  again (w64 (x1.1*10),x1.2.1,w64 (x1.2.2.1+1),())
 else
  some (Sum.inr (x1.1,()))
def M7 (a0:Int):Option (Int×Unit):=
 aL (β:=(Int×Unit)) (γ:=(Int×Unit)) (
  iter (X:=u5) (β:=uZ) (Int.natAbs (1:Int)+(Int.natAbs a0+(Int.natAbs (0:Int)+2))) (1,a0,0,()) (uY)) fun v2=>
 some (v2.1,())
abbrev nJ:Type:=(List (List UInt8))×(List UInt8)×Int×Int×Unit
abbrev nI:Type:=((Int×Unit) ⊕ Unit)
def EX (x1:nJ) (again:nJ→Option nI):Option nI:=
 match x1 with
 | (A,B,C,D,_)=>
 bif decide (D<C) then
  Option.bind (idx A D) fun y2=>
  bif B==y2 then
   some (Sum.inl (D,()))
  else
   again (A,B,C,w64 (D+1),())
 else
  some (Sum.inr ())
def yu (a0:List (List UInt8)) (a1:List UInt8):Option (Int×Unit):=
 aL (β:=(Int×Unit)) (γ:=Unit) (
  iter (X:=nJ) (β:=nI) (List.length a0+(List.length a1+(Int.natAbs ((List.length a0:Int))+(Int.natAbs (0:Int)+2)))) (a0,a1,(List.length a0:Int),0,()) (EX)) fun _=>
 some ((-1),())
abbrev lX:Type:=(List Int)×Unit
abbrev vL:Type:=(((List Int)×Unit) ⊕ ((List Int)×Unit))
def vJ (x1:lX) (again:lX→Option vL):Option vL:=
 bif decide (((x1.1.length:Int))>0) then
  Option.bind (idx x1.1 (w64 (((x1.1.length:Int)) - 1))) fun y2=>
  bif y2==0 then
   chk (decide (0≤(0:Int))&&decide ((0:Int)≤(w64 (((x1.1.length:Int)) - 1)))&&decide ((w64 (((x1.1.length:Int)) - 1))≤(x1.1.length:Int))) <|
   again (List.drop 0 (List.take (Int.toNat (w64 (((x1.1.length:Int)) - 1))) x1.1),())
  else
   some (Sum.inr (x1.1,()))
 else
  some (Sum.inr (x1.1,()))
def mI (a0:List Int):Option ((List Int)×Unit):=
 aL (β:=((List Int)×Unit)) (γ:=((List Int)×Unit)) (
  iter (X:=lX) (β:=vL) (List.length a0+2) (a0,()) (vJ)) fun v3=>
 some (v3.1,())
def gy (a0:Bool) (a1:List Int):Option (bB×Unit):=
 Option.bind (mI a1) fun r1=>
 bif a0 then
  some ((decide (((r1.1.length:Int))>0),r1.1),())
 else
  some ((false,r1.1),())
def sW (a0:Int):Option (bB×Unit):=
 aL (β:=(bB×Unit)) (γ:=(Int×Int×Bool×(List Int)×Unit)) (
  bif decide (a0<0) then
   some (Sum.inr (a0,bT (0 - (bT a0)),false,[],()))
  else
   some (Sum.inr (a0,bT a0,false,[],()))) fun v1=>
 Option.bind (gy (decide (v1.1<0)) [(kD v1.2.1),(kD (Int.fdiv v1.2.1 (2 ^ 32)))]) fun r2=>
 some (r2.1,())
abbrev sZ:Type:=(List Int)×(List Int)×Int×(List Int)×Int×Int×Unit
abbrev sY:Type:=(((List Int)×Unit) ⊕ ((List Int)×Int×Unit))
def sX (x1:sZ) (again:sZ→Option sY):Option sY:=
 match x1 with
 | (A,B,C,D,E,F,_)=>
 bif decide (F<E) then
  Option.bind (idx D F) fun y2=>
  aL (β:=(((List Int)×Unit) ⊕ ((List Int)×Int×Unit))) (γ:=((List Int)×(List Int)×Int×(List Int)×Int×Int×Unit)) (
   bif decide (F<((A.length:Int))) then
    Option.bind (idx A F) fun y3=>
    let n4:Int:=bT ((bT (C+(bT y2)))+(bT y3))
    some (Sum.inr (A,B,n4,D,E,F,()))
   else
    some (Sum.inr (A,B,bT (C+(bT y2)),D,E,F,()))) fun v5=>
  chk (decide (((v5.2.1.length)+1)*4≤140737488355328)&&decide ((v5.2.1.length)+1≤maxLen)) <|
  again (v5.1,v5.2.1++[(kD v5.2.2.1)],Int.fdiv v5.2.2.1 (2 ^ 32),v5.2.2.2.1,v5.2.2.2.2.1,w64 (v5.2.2.2.2.2.1+1),())
 else
  some (Sum.inr (B,C,()))
def Ef (a0:List Int) (a1:List Int):Option ((List Int)×Unit):=
 aL (β:=((List Int)×Unit)) (γ:=((List Int)×(List Int)×Unit)) (
  bif decide (((List.length a0:Int))<((List.length a1:Int))) then
   some (Sum.inr (a1,a0,()))
  else
   some (Sum.inr (a0,a1,()))) fun v1=>
 chk (decide (0≤(0:Int))&&decide ((0:Int)≤(w64 (((v1.1.length:Int))+1)))&&decide ((4:Int)*(w64 (((v1.1.length:Int))+1))≤281474976710656)&&decide ((w64 (((v1.1.length:Int))+1))≤9223372036854775807)) <|
 aL (β:=((List Int)×Unit)) (γ:=((List Int)×Int×Unit)) (
  iter (X:=sZ) (β:=sY) (v1.2.1.length+(List.length ([]:List Int)+(Int.natAbs (0:Int)+(v1.1.length+(Int.natAbs ((v1.1.length:Int))+(Int.natAbs (0:Int)+2)))))) (v1.2.1,[],0,v1.1,(v1.1.length:Int),0,()) (sX)) fun v7=>
 chk (decide (((v7.1.length)+1)*4≤140737488355328)&&decide ((v7.1.length)+1≤maxLen)) <|
 some (v7.1++[(kD v7.2.1)],())
abbrev pZ:Type:=(List Int)×(List Int)×Int×Unit
abbrev pY:Type:=((Int×Unit) ⊕ Unit)
def lW (x1:pZ) (again:pZ→Option pY):Option pY:=
 match x1 with
 | (A,B,C,_)=>
 bif decide (C≥0) then
  Option.bind (idx A C) fun y2=>
  Option.bind (idx B C) fun y3=>
  bif y2 != y3 then
   Option.bind (idx A C) fun y4=>
   Option.bind (idx B C) fun y5=>
   bif decide (y4<y5) then
    some (Sum.inl ((-1),()))
   else
    some (Sum.inl (1,()))
  else
   again (A,B,w64 (C - 1),())
 else
  some (Sum.inr ())
def qy (a0:List Int) (a1:List Int):Option (Int×Unit):=
 bif ((List.length a0:Int)) != ((List.length a1:Int)) then
  some (w64 (((List.length a0:Int)) - ((List.length a1:Int))),())
 else
  aL (β:=(Int×Unit)) (γ:=Unit) (
   iter (X:=pZ) (β:=pY) (List.length a0+(List.length a1+(Int.natAbs (w64 (((List.length a0:Int)) - 1))+2))) (a0,a1,w64 (((List.length a0:Int)) - 1),()) (lW)) fun _=>
  some (0,())
abbrev vr:Type:=(List Int)×(List Int)×Int×(List Int)×Int×Int×Unit
abbrev vq:Type:=(((List Int)×Unit) ⊕ ((List Int)×Unit))
def vp (x1:vr) (again:vr→Option vq):Option vq:=
 match x1 with
 | (A,B,C,D,E,F,_)=>
 bif decide (F<E) then
  Option.bind (idx D F) fun y2=>
  aL (β:=(((List Int)×Unit) ⊕ ((List Int)×Unit))) (γ:=((List Int)×(List Int)×Int×(List Int)×Int×Int×Unit)) (
   bif decide (F<((A.length:Int))) then
    Option.bind (idx A F) fun y3=>
    let n4:Int:=bT ((bT ((bT y2) - C)) - (bT y3))
    some (Sum.inr (A,B,n4,D,E,F,()))
   else
    some (Sum.inr (A,B,bT ((bT y2) - C),D,E,F,()))) fun v5=>
  chk (decide (((v5.2.1.length)+1)*4≤140737488355328)&&decide ((v5.2.1.length)+1≤maxLen)) <|
  again (v5.1,v5.2.1++[(kD v5.2.2.1)],bT (((BitVec.ofInt (IntKind.bits .u64) (Int.fdiv v5.2.2.1 (2 ^ 32)) &&& BitVec.ofInt (IntKind.bits .u64) 1).toNat:Int)),v5.2.2.2.1,v5.2.2.2.2.1,w64 (v5.2.2.2.2.2.1+1),())
 else
  some (Sum.inr (B,()))
def tv (a0:List Int) (a1:List Int):Option ((List Int)×Unit):=
 chk (decide (0≤(0:Int))&&decide ((0:Int)≤((List.length a0:Int)))&&decide ((4:Int)*((List.length a0:Int))≤281474976710656)&&decide (((List.length a0:Int))≤9223372036854775807)) <|
 aL (β:=((List Int)×Unit)) (γ:=((List Int)×Unit)) (
  iter (X:=vr) (β:=vq) (List.length a1+(List.length ([]:List Int)+(Int.natAbs (0:Int)+(List.length a0+(Int.natAbs ((List.length a0:Int))+(Int.natAbs (0:Int)+2)))))) (a1,[],0,a0,(List.length a0:Int),0,()) (vp)) fun v6=>
 Option.bind (mI v6.1) fun r7=>
 some (r7.1,())
abbrev rA:Type:=(List Int)×Int×Bool×(List Int)×Bool×(List Int)×Bool×(List Int)×Bool×(List Int)×(List Int)×Unit
abbrev rz:Type:=((bB×bB×Unit) ⊕ ((List Int)×Bool×(List Int)×Bool×(List Int)×(List Int)×Unit))
def ry (x1:rA) (again:rA→Option rz):Option rz:=
 match x1 with
 | (A,B,C,D,E,F,G,H,I,J,K,_)=>
 bif decide (B≥0) then
  Option.bind (Ef A A) fun r2=>
  chk (decide (0≤(0:Int))&&decide ((0:Int)<(r2.1.length:Int))) <|
  Option.bind (r2.1[0]?) fun y3=>
  Option.bind (idx D (w64 (Int.tdiv B 32))) fun y4=>
  chk (decide (0≤(Int.tmod B 32))) <|
  let n5:Int:=kD (((BitVec.ofInt (IntKind.bits .u32) (Int.fdiv y4 (2 ^ (min (Int.toNat (Int.tmod B 32)) (IntKind.bits .u32)))) &&& BitVec.ofInt (IntKind.bits .u32) 1).toNat:Int))
  chk (decide (0≤(0:Int))&&decide ((0:Int)<(r2.1.length:Int))) <|
  Option.bind (r2.1[0]?) fun _=>
  Option.bind (mI (List.set r2.1 0 (kD (((BitVec.ofInt (IntKind.bits .u32) y3 ||| BitVec.ofInt (IntKind.bits .u32) n5).toNat:Int))))) fun r6=>
  Option.bind (qy r6.1 F) fun r7=>
  bif decide (r7.1≥0) then
   Option.bind (tv r6.1 F) fun r8=>
   chk (decide (0≤(w64 (Int.tdiv B 32)))&&decide ((w64 (Int.tdiv B 32))<(K.length:Int))) <|
   Option.bind (K[(w64 (Int.tdiv B 32)).toNat]?) fun y9=>
   chk (decide (0≤(Int.tmod B 32))) <|
   let n10:Int:=kD (((BitVec.ofInt (IntKind.bits .u32) y9 ||| BitVec.ofInt (IntKind.bits .u32) (kD (1*2 ^ (min (Int.toNat (Int.tmod B 32)) (IntKind.bits .u32))))).toNat:Int))
   chk (decide (0≤(w64 (Int.tdiv B 32)))&&decide ((w64 (Int.tdiv B 32))<(K.length:Int))) <|
   Option.bind (K[(w64 (Int.tdiv B 32)).toNat]?) fun _=>
   again (r8.1,w64 (B - 1),C,D,E,F,G,H,I,J,List.set K (w64 (Int.tdiv B 32)).toNat n10,())
  else
   again (r6.1,w64 (B - 1),C,D,E,F,G,H,I,J,K,())
 else
  some (Sum.inr (A,G,H,I,J,K,()))
def sQ (a0:bB) (a1:bB):Option (bB×bB×Unit):=
 chk (decide (0≤((a0.2.length:Int)))&&decide (((a0.2.length:Int))≤((a0.2.length:Int)))&&decide ((4:Int)*((a0.2.length:Int))≤281474976710656)&&decide (((a0.2.length:Int))≤9223372036854775807)) <|
 let n1:Int:=w64 ((w64 (((a0.2.length:Int))*32)) - 1)
 aL (β:=(bB×bB×Unit)) (γ:=((List Int)×Bool×(List Int)×Bool×(List Int)×(List Int)×Unit)) (
  iter (X:=rA) (β:=rz) (List.length ([]:List Int)+(Int.natAbs n1+(a0.2.length+(a1.2.length+(List.length ([]:List Int)+(List.length ([]:List Int)+(List.length ((List.replicate (Int.toNat ((a0.2.length:Int))) 0):List Int)+2))))))) ([],n1,a0.1,a0.2,a1.1,a1.2,false,[],false,[],List.replicate (Int.toNat ((a0.2.length:Int))) 0,()) (ry)) fun v14=>
 Option.bind (gy false v14.2.2.2.2.2.1) fun r15=>
 Option.bind (gy false v14.1) fun r16=>
 some (r15.1,r16.1,())
def jc (a0:bB):Option (Int×Unit):=
 bif a0.1 then
  some ((-1),())
 else
  bif ((a0.2.length:Int))==0 then
   some (0,())
  else
   some (1,())
def nx (a0:bB):Option (bB×Unit):=
 Option.bind (gy (!a0.1) a0.2) fun r1=>
 some (r1.1,())
abbrev pX:Type:=Int×Int×(List Int)×Int×Int×Bool×(List Int)×Unit
abbrev pW:Type:=((Int×Bool×Unit) ⊕ (Int×Int×Bool×(List Int)×Unit))
def pV (x1:pX) (again:pX→Option pW):Option pW:=
 match x1 with
 | (A,B,C,D,E,F,G,_)=>
 bif decide (E<D) then
  Option.bind (idx C E) fun y2=>
  chk (decide (0≤(w64 (32*E)))) <|
  let n3:Int:=bT ((bT y2)*2 ^ (min (Int.toNat (w64 (32*E))) (IntKind.bits .u64)))
  again (A,bT (((BitVec.ofInt (IntKind.bits .u64) B ||| BitVec.ofInt (IntKind.bits .u64) n3).toNat:Int)),C,D,w64 (E+1),F,G,())
 else
  some (Sum.inr (A,B,F,G,()))
def vo (a0:bB) (a1:Int):Option (Int×Bool×Unit):=
 bif decide (((a0.2.length:Int))>2) then
  some (0,false,())
 else
  aL (β:=(Int×Bool×Unit)) (γ:=(Int×Int×Bool×(List Int)×Unit)) (
   iter (X:=pX) (β:=pW) (Int.natAbs a1+(Int.natAbs (0:Int)+(a0.2.length+(Int.natAbs ((a0.2.length:Int))+(Int.natAbs (0:Int)+(a0.2.length+2)))))) (a1,0,a0.2,(a0.2.length:Int),0,a0.1,a0.2,()) (pV)) fun v4=>
  bif decide (v4.2.1>(bT v4.1)) then
   some (0,false,())
  else
   bif v4.2.2.1 then
    some (w64 (0 - (w64 v4.2.1)),true,())
   else
    some (w64 v4.2.1,true,())
def nA (a0:bB) (a1:Int):Option (ah×Int×Unit):=
 Option.bind (vo a0 1000000000000000) fun r1=>
 bif !r1.2.1 then
  some ((0,0),1,())
 else
  some ((r1.1,a1),0,())
abbrev pq:Type:=Int×Bool×(List Int)×Int×Int×Bool×(List Int)×Unit
abbrev pg:Type:=((ah×Int×Unit) ⊕ (Int×Bool×(List Int)×Int×Int×Unit))
def pe (x1:pq) (again:pq→Option pg):Option pg:=
 match x1 with
 | (A,B,C,D,E,F,G,_)=>
 bif decide (A>0) then
  Option.bind (sQ (B,C) (F,G)) fun r2=>
  Option.bind (jc r2.2.1) fun r3=>
  bif r3.1 != 0 then
   some (Sum.inr (A,B,C,D,E,()))
  else
   Option.bind (jc (B,C)) fun r4=>
   bif decide (r4.1<0) then
    Option.bind (nx r2.1) fun r5=>
    again (w64 (A - 1),r5.1.1,r5.1.2,D,E,F,G,())
   else
    again (w64 (A - 1),r2.1.1,r2.1.2,D,E,F,G,())
 else
  some (Sum.inr (A,B,C,D,E,()))
def uX (a0:bB) (a1:Int):Option (ah×Int×Unit):=
 Option.bind (sW 10) fun r1=>
 aL (β:=(ah×Int×Unit)) (γ:=(Int×Bool×(List Int)×Int×Int×Unit)) (
  iter (X:=pq) (β:=pg) (Int.natAbs a1+(a0.2.length+(Int.natAbs (0:Int)+(Int.natAbs (0:Int)+(r1.1.2.length+2))))) (a1,a0.1,a0.2,0,0,r1.1.1,r1.1.2,()) (pe)) fun v7=>
 Option.bind (nA (v7.2.1,v7.2.2.1) v7.1) fun r8=>
 some (r8.1,r8.2.1,())
abbrev CU:Type:=Int×Bool×(List Int)×Bool×(List Int)×Unit
abbrev CT:Type:=((ay×Unit) ⊕ (Bool×(List Int)×Bool×(List Int)×Unit))
def vF (x1:CU) (again:CU→Option CT):Option CT:=
 match x1 with
 | (A,B,C,D,E,_)=>
 bif A != 0 then
  chk (decide (((E.length)+1)*8≤140737488355328)&&decide ((E.length)+1≤maxLen)) <|
  again (w64 (Int.tdiv A 1000000),B,C,D,E++[(if (w64 (0 - (Int.tmod A 1000000)))>(Int.tmod A 1000000) then (w64 (0 - (Int.tmod A 1000000))) else (Int.tmod A 1000000))],())
 else
  some (Sum.inr (B,C,D,E,()))
def KT (a0:Int):Option (ay×Unit):=
 aL (β:=(ay×Unit)) (γ:=(Bool×(List Int)×Bool×(List Int)×Unit)) (
  iter (X:=CU) (β:=CT) (Int.natAbs a0+(List.length ([]:List Int)+(List.length ([]:List Int)+2))) (a0,false,[],decide (a0<0),[],()) (vF)) fun v2=>
 some ((v2.2.2.1,v2.2.2.2.1),())
abbrev qo:Type:=Bool×(List Int)×Bool×(List Int)×Unit
abbrev AV:Type:=((ay×Unit) ⊕ (Bool×(List Int)×Bool×(List Int)×Unit))
def AU (x1:qo) (again:qo→Option AV):Option AV:=
 match x1 with
 | (A,B,C,D,_)=>
 bif decide (((B.length:Int))>0) then
  Option.bind (idx B (w64 (((B.length:Int)) - 1))) fun y2=>
  bif y2==0 then
   chk (decide (0≤(0:Int))&&decide ((0:Int)≤(w64 (((B.length:Int)) - 1)))&&decide ((w64 (((B.length:Int)) - 1))≤(B.length:Int))) <|
   again (A,List.drop 0 (List.take (Int.toNat (w64 (((B.length:Int)) - 1))) B),C,D,())
  else
   some (Sum.inr (A,B,C,D,()))
 else
  some (Sum.inr (A,B,C,D,()))
def nj (a0:ay):Option (ay×Unit):=
 aL (β:=(ay×Unit)) (γ:=(Bool×(List Int)×Bool×(List Int)×Unit)) (
  iter (X:=qo) (β:=AV) (a0.2.length+(List.length ([]:List Int)+2)) (a0.1,a0.2,false,[],()) (AU)) fun v3=>
 bif ((v3.2.1.length:Int))==0 then
  some ((false,v3.2.1),())
 else
  some ((v3.1,v3.2.1),())
abbrev vj:Type:=Int×Int×(List Int)×Int×Int×(List Int)×Int×Int×Bool×(List Int)×Bool×(List Int)×Bool×(List Int)×Unit
abbrev vh:Type:=(((ay×Unit) ⊕ (Bool×(List Int)×Bool×(List Int)×Unit)) ⊕ ((List Int)×Int×Int×Bool×(List Int)×Bool×(List Int)×Bool×(List Int)×Unit))
def vf (x1:vj) (again:vj→Option vh):Option vh:=
 match x1 with
 | (A,B,C,D,E,F,G,H,I,J,K,L,M,N,_)=>
 bif decide (H<G) then
  Option.bind (idx F H) fun y2=>
  chk (decide (0≤(w64 (A+H)))&&decide ((w64 (A+H))<(N.length:Int))) <|
  Option.bind (N[(w64 (A+H)).toNat]?) fun y3=>
  chk (decide (0≤(w64 (A+H)))&&decide ((w64 (A+H))<(N.length:Int))) <|
  Option.bind (N[(w64 (A+H)).toNat]?) fun _=>
  chk (decide (0≤(w64 ((w64 (A+H))+1)))&&decide ((w64 ((w64 (A+H))+1))<(List.length (List.set N (w64 (A+H)).toNat (w64 (y3+(w64 (B*y2))))):Int))) <|
  Option.bind ((List.set N (w64 (A+H)).toNat (w64 (y3+(w64 (B*y2)))))[(w64 ((w64 (A+H))+1)).toNat]?) fun y4=>
  chk (decide (0≤(w64 (A+H)))&&decide ((w64 (A+H))<(List.length (List.set N (w64 (A+H)).toNat (w64 (y3+(w64 (B*y2))))):Int))) <|
  Option.bind ((List.set N (w64 (A+H)).toNat (w64 (y3+(w64 (B*y2)))))[(w64 (A+H)).toNat]?) fun y5=>
  chk (decide (0≤(w64 ((w64 (A+H))+1)))&&decide ((w64 ((w64 (A+H))+1))<(List.length (List.set N (w64 (A+H)).toNat (w64 (y3+(w64 (B*y2))))):Int))) <|
  Option.bind ((List.set N (w64 (A+H)).toNat (w64 (y3+(w64 (B*y2)))))[(w64 ((w64 (A+H))+1)).toNat]?) fun _=>
  chk (decide (0≤(w64 (A+H)))&&decide ((w64 (A+H))<(List.length (List.set (List.set N (w64 (A+H)).toNat (w64 (y3+(w64 (B*y2))))) (w64 ((w64 (A+H))+1)).toNat (w64 (y4+(w64 (Int.tdiv y5 1000000))))):Int))) <|
  Option.bind ((List.set (List.set N (w64 (A+H)).toNat (w64 (y3+(w64 (B*y2))))) (w64 ((w64 (A+H))+1)).toNat (w64 (y4+(w64 (Int.tdiv y5 1000000)))))[(w64 (A+H)).toNat]?) fun y6=>
  chk (decide (0≤(w64 (A+H)))&&decide ((w64 (A+H))<(List.length (List.set (List.set N (w64 (A+H)).toNat (w64 (y3+(w64 (B*y2))))) (w64 ((w64 (A+H))+1)).toNat (w64 (y4+(w64 (Int.tdiv y5 1000000))))):Int))) <|
  Option.bind ((List.set (List.set N (w64 (A+H)).toNat (w64 (y3+(w64 (B*y2))))) (w64 ((w64 (A+H))+1)).toNat (w64 (y4+(w64 (Int.tdiv y5 1000000)))))[(w64 (A+H)).toNat]?) fun _=>
  again (A,B,C,D,E,F,G,w64 (H+1),I,J,K,L,M,List.set (List.set (List.set N (w64 (A+H)).toNat (w64 (y3+(w64 (B*y2))))) (w64 ((w64 (A+H))+1)).toNat (w64 (y4+(w64 (Int.tdiv y5 1000000))))) (w64 (A+H)).toNat (Int.tmod y6 1000000),())
 else
  some (Sum.inr (C,D,E,I,J,K,L,M,N,()))
abbrev vi:Type:=(List Int)×Int×Int×Bool×(List Int)×Bool×(List Int)×Bool×(List Int)×Unit
abbrev vg:Type:=((ay×Unit) ⊕ (Bool×(List Int)×Bool×(List Int)×Unit))
def ve (x1:vi) (again:vi→Option vg):Option vg:=
 match x1 with
 | (A,B,C,D,E,F,G,H,I,_)=>
 bif decide (C<B) then
  Option.bind (idx A C) fun y2=>
  aL (β:=((ay×Unit) ⊕ (Bool×(List Int)×Bool×(List Int)×Unit))) (γ:=((List Int)×Int×Int×Bool×(List Int)×Bool×(List Int)×Bool×(List Int)×Unit)) (
   iter (X:=vj) (β:=vh) (C.natAbs+(Int.natAbs y2+(A.length+(B.natAbs+(C.natAbs+(E.length+(Int.natAbs ((E.length:Int))+(Int.natAbs (0:Int)+(E.length+(G.length+(I.length+2))))))))))) (C,y2,A,B,C,E,(E.length:Int),0,D,E,F,G,H,I,()) (vf)) fun v3=>
  again (v3.1,v3.2.1,w64 (v3.2.2.1+1),v3.2.2.2.1,v3.2.2.2.2.1,v3.2.2.2.2.2.1,v3.2.2.2.2.2.2.1,v3.2.2.2.2.2.2.2.1,v3.2.2.2.2.2.2.2.2.1,())
 else
  some (Sum.inr (F,G,H,I,()))
abbrev tr:Type:=Int×Int×Bool×(List Int)×Bool×(List Int)×Unit
abbrev tq:Type:=((ay×Unit) ⊕ (Bool×(List Int)×Bool×(List Int)×Unit))
def tj (x1:tr) (again:tr→Option tq):Option tq:=
 match x1 with
 | (A,B,C,D,E,F,_)=>
 bif decide (B<A) then
  chk (decide (0≤(w64 (B+1)))&&decide ((w64 (B+1))<(F.length:Int))) <|
  Option.bind (F[(w64 (B+1)).toNat]?) fun y2=>
  chk (decide (0≤B)&&decide (B<(F.length:Int))) <|
  Option.bind (F[B.toNat]?) fun y3=>
  chk (decide (0≤(w64 (B+1)))&&decide ((w64 (B+1))<(F.length:Int))) <|
  Option.bind (F[(w64 (B+1)).toNat]?) fun _=>
  chk (decide (0≤B)&&decide (B<(List.length (List.set F (w64 (B+1)).toNat (w64 (y2+(w64 (Int.tdiv y3 1000000))))):Int))) <|
  Option.bind ((List.set F (w64 (B+1)).toNat (w64 (y2+(w64 (Int.tdiv y3 1000000)))))[B.toNat]?) fun y4=>
  chk (decide (0≤B)&&decide (B<(List.length (List.set F (w64 (B+1)).toNat (w64 (y2+(w64 (Int.tdiv y3 1000000))))):Int))) <|
  Option.bind ((List.set F (w64 (B+1)).toNat (w64 (y2+(w64 (Int.tdiv y3 1000000)))))[B.toNat]?) fun _=>
  again (A,w64 (B+1),C,D,E,List.set (List.set F (w64 (B+1)).toNat (w64 (y2+(w64 (Int.tdiv y3 1000000))))) B.toNat (Int.tmod y4 1000000),())
 else
  some (Sum.inr (C,D,E,F,()))
def th (a0:ay) (a1:ay):Option (ay×Unit):=
 let n1:Int:=w64 ((w64 (((a0.2.length:Int))+((a1.2.length:Int))))+1)
 chk (decide (0≤n1)&&decide (n1≤n1)&&decide ((8:Int)*n1≤281474976710656)&&decide (n1≤9223372036854775807)) <|
 aL (β:=(ay×Unit)) (γ:=(Bool×(List Int)×Bool×(List Int)×Unit)) (
  iter (X:=vi) (β:=vg) (a0.2.length+(Int.natAbs ((a0.2.length:Int))+(Int.natAbs (0:Int)+(a1.2.length+(List.length ([]:List Int)+(List.length ((List.replicate (Int.toNat n1) 0):List Int)+2)))))) (a0.2,(a0.2.length:Int),0,a1.1,a1.2,false,[], !(a0.1==a1.1),List.replicate (Int.toNat n1) 0,()) (ve)) fun v14=>
 aL (β:=(ay×Unit)) (γ:=(Bool×(List Int)×Bool×(List Int)×Unit)) (
  iter (X:=tr) (β:=tq) (Int.natAbs (w64 (((v14.2.2.2.1.length:Int)) - 1))+(Int.natAbs (0:Int)+(v14.2.1.length+(v14.2.2.2.1.length+2)))) (w64 (((v14.2.2.2.1.length:Int)) - 1),0,v14.1,v14.2.1,v14.2.2.1,v14.2.2.2.1,()) (tj)) fun v21=>
 Option.bind (nj (v21.2.2.1,v21.2.2.2.1)) fun r22=>
 some (r22.1,())
abbrev zq:Type:=Int×Int×Bool×(List Int)×Bool×(List Int)×Unit
abbrev zo:Type:=((ay×Unit) ⊕ (Bool×(List Int)×Bool×(List Int)×Unit))
def zn (x1:zq) (again:zq→Option zo):Option zo:=
 match x1 with
 | (A,B,C,D,E,F,_)=>
 bif decide (B<A) then
  Option.bind (KT 10) fun r2=>
  Option.bind (th (E,F) r2.1) fun r3=>
  again (A,w64 (B+1),C,D,r3.1.1,r3.1.2,())
 else
  some (Sum.inr (C,D,E,F,()))
def Ht (a0:Int):Option (ay×Unit):=
 Option.bind (KT 1) fun r1=>
 aL (β:=(ay×Unit)) (γ:=(Bool×(List Int)×Bool×(List Int)×Unit)) (
  iter (X:=zq) (β:=zo) (Int.natAbs a0+(Int.natAbs (0:Int)+(List.length ([]:List Int)+(r1.1.2.length+2)))) (a0,0,false,[],r1.1.1,r1.1.2,()) (zn)) fun v5=>
 some ((v5.2.2.1,v5.2.2.2.1),())
def BD (a0:ah) (a1:Int):Option (ay×Unit):=
 Option.bind (KT a0.1) fun r1=>
 Option.bind (Ht (w64 (a1 - a0.2))) fun r2=>
 Option.bind (th r1.1 r2.1) fun r3=>
 some (r3.1,())
abbrev zw:Type:=(List Int)×(List Int)×Int×Unit
abbrev zu:Type:=((Int×Unit) ⊕ Unit)
def uI (x1:zw) (again:zw→Option zu):Option zu:=
 match x1 with
 | (A,B,C,_)=>
 bif decide (C≥0) then
  Option.bind (idx A C) fun y2=>
  Option.bind (idx B C) fun y3=>
  bif y2 != y3 then
   Option.bind (idx A C) fun y4=>
   Option.bind (idx B C) fun y5=>
   some (Sum.inl (w64 (y4 - y5),()))
  else
   again (A,B,w64 (C - 1),())
 else
  some (Sum.inr ())
def Hu (a0:List Int) (a1:List Int):Option (Int×Unit):=
 bif ((List.length a0:Int)) != ((List.length a1:Int)) then
  some (w64 (((List.length a0:Int)) - ((List.length a1:Int))),())
 else
  aL (β:=(Int×Unit)) (γ:=Unit) (
   iter (X:=zw) (β:=zu) (List.length a0+(List.length a1+(Int.natAbs (w64 (((List.length a0:Int)) - 1))+2))) (a0,a1,w64 (((List.length a0:Int)) - 1),()) (uI)) fun _=>
  some (0,())
def yR (a0:List Int) (a1:Int):Option (Int×Unit):=
 bif decide (a1<((List.length a0:Int))) then
  Option.bind (idx a0 a1) fun y1=>
  some (y1,())
 else
  some (0,())
abbrev xA:Type:=Int×Int×Int×Bool×(List Int)×Bool×(List Int)×Bool×(List Int)×Bool×(List Int)×Unit
abbrev xz:Type:=((ay×Unit) ⊕ (Bool×(List Int)×Bool×(List Int)×Unit))
def xw (x1:xA) (again:xA→Option xz):Option xz:=
 match x1 with
 | (A,B,C,D,E,F,G,H,I,J,K,_)=>
 bif decide (C<B) then
  Option.bind (idx E C) fun y2=>
  Option.bind (yR G C) fun r3=>
  aL (β:=((ay×Unit) ⊕ (Bool×(List Int)×Bool×(List Int)×Unit))) (γ:=(Int×Int×Int×Int×Bool×(List Int)×Bool×(List Int)×Bool×(List Int)×Bool×(List Int)×Unit)) (
   bif decide ((w64 ((w64 (y2 - r3.1)) - A))<0) then
    let n4:Int:=w64 ((w64 ((w64 (y2 - r3.1)) - A))+1000000)
    some (Sum.inr (1,n4,B,C,D,E,F,G,H,I,J,K,()))
   else
    some (Sum.inr (0,w64 ((w64 (y2 - r3.1)) - A),B,C,D,E,F,G,H,I,J,K,()))) fun v5=>
  chk (decide (((v5.2.2.2.2.2.2.2.2.2.2.2.1.length)+1)*8≤140737488355328)&&decide ((v5.2.2.2.2.2.2.2.2.2.2.2.1.length)+1≤maxLen)) <|
  again (v5.1,v5.2.2.1,w64 (v5.2.2.2.1+1),v5.2.2.2.2.1,v5.2.2.2.2.2.1,v5.2.2.2.2.2.2.1,v5.2.2.2.2.2.2.2.1,v5.2.2.2.2.2.2.2.2.1,v5.2.2.2.2.2.2.2.2.2.1,v5.2.2.2.2.2.2.2.2.2.2.1,v5.2.2.2.2.2.2.2.2.2.2.2.1++[v5.2.1],())
 else
  some (Sum.inr (H,I,J,K,()))
abbrev zm:Type:=Int×Int×Int×Bool×(List Int)×Bool×(List Int)×Bool×(List Int)×Bool×(List Int)×Unit
abbrev zl:Type:=((ay×Unit) ⊕ (Bool×(List Int)×Bool×(List Int)×Unit))
def zk (x1:zm) (again:zm→Option zl):Option zl:=
 match x1 with
 | (A,B,C,D,E,F,G,H,I,J,K,_)=>
 bif decide (C<B) then
  Option.bind (yR E C) fun r2=>
  Option.bind (yR G C) fun r3=>
  let n4:Int:=Int.tmod (w64 ((w64 (r2.1+r3.1))+A)) 1000000
  chk (decide (((K.length)+1)*8≤140737488355328)&&decide ((K.length)+1≤maxLen)) <|
  let n5:Int:=w64 (Int.tdiv (w64 ((w64 (r2.1+r3.1))+A)) 1000000)
  again (n5,B,w64 (C+1),D,E,F,G,H,I,J,K++[n4],())
 else
  some (Sum.inr (H,I,J,K,()))
def KU (a0:ay) (a1:ay):Option (ay×Unit):=
 bif !(a0.1==a1.1) then
  Option.bind (Hu a0.2 a1.2) fun r1=>
  aL (β:=(ay×Unit)) (γ:=(Bool×(List Int)×Bool×(List Int)×Bool×(List Int)×Unit)) (
   bif decide (r1.1<0) then
    some (Sum.inr (a1.1,a1.2,a0.1,a0.2,false,[],()))
   else
    some (Sum.inr (a0.1,a0.2,a1.1,a1.2,false,[],()))) fun v2=>
  aL (β:=(ay×Unit)) (γ:=(Bool×(List Int)×Bool×(List Int)×Unit)) (
   iter (X:=xA) (β:=xz) (Int.natAbs (0:Int)+(Int.natAbs ((v2.2.1.length:Int))+(Int.natAbs (0:Int)+(v2.2.1.length+(v2.2.2.2.1.length+(v2.2.2.2.2.2.1.length+(List.length ([]:List Int)+2))))))) (0,(v2.2.1.length:Int),0,v2.1,v2.2.1,v2.2.2.1,v2.2.2.2.1,v2.2.2.2.2.1,v2.2.2.2.2.2.1,v2.1,[],()) (xw)) fun v8=>
  Option.bind (nj (v8.2.2.1,v8.2.2.2.1)) fun r9=>
  some (r9.1,())
 else
  let n10:Int:=w64 ((if ((a1.2.length:Int))>((a0.2.length:Int)) then ((a1.2.length:Int)) else ((a0.2.length:Int)))+1)
  aL (β:=(ay×Unit)) (γ:=(Bool×(List Int)×Bool×(List Int)×Unit)) (
   iter (X:=zm) (β:=zl) (Int.natAbs (0:Int)+(Int.natAbs n10+(Int.natAbs (0:Int)+(a0.2.length+(a1.2.length+(List.length ([]:List Int)+(List.length ([]:List Int)+2))))))) (0,n10,0,a0.1,a0.2,a1.1,a1.2,false,[],a0.1,[],()) (zk)) fun v16=>
  Option.bind (nj (v16.2.2.1,v16.2.2.2.1)) fun r17=>
  some (r17.1,())
def Hr (a0:ay):Option (ay×Unit):=
 bif decide (((a0.2.length:Int))>0) then
  some ((!a0.1,a0.2),())
 else
  some (a0,())
def KV (a0:ay):Option (Int×Unit):=
 bif ((a0.2.length:Int))==0 then
  some (0,())
 else
  bif a0.1 then
   some ((-1),())
  else
   some (1,())
def Kk (a0:ay) (a1:ay):Option (Int×Unit):=
 Option.bind (Hr a1) fun r1=>
 Option.bind (KU a0 r1.1) fun r2=>
 Option.bind (KV r2.1) fun r3=>
 some (r3.1,())
end Go.Md
namespace Go.Md
open Go.Dn
abbrev CX:Type:=(List UInt8)×Int×Int×Unit
abbrev CW:Type:=((Bool×Unit) ⊕ Unit)
def xB (x1:CX) (again:CX→Option CW):Option CW:=
 match x1 with
 | (A,B,C,_)=>
 bif decide (C<B) then
  Option.bind (sG A C) fun c2=>
  bif decide ((c2.toNat:Int)<97) then
   bif decide ((c2.toNat:Int)<48) then
    bif (c2.toNat:Int) != 45 then
     some (Sum.inl (false,()))
    else
     again (A,B,w64 (C+1),())
   else
    bif decide ((c2.toNat:Int)>57) then
     bif (c2.toNat:Int) != 45 then
      some (Sum.inl (false,()))
     else
      again (A,B,w64 (C+1),())
    else
     again (A,B,w64 (C+1),())
  else
   bif decide ((c2.toNat:Int)>122) then
    bif decide ((c2.toNat:Int)<48) then
     bif (c2.toNat:Int) != 45 then
      some (Sum.inl (false,()))
     else
      again (A,B,w64 (C+1),())
    else
     bif decide ((c2.toNat:Int)>57) then
      bif (c2.toNat:Int) != 45 then
       some (Sum.inl (false,()))
      else
       again (A,B,w64 (C+1),())
     else
      again (A,B,w64 (C+1),())
   else
    again (A,B,w64 (C+1),())
 else
  some (Sum.inr ())
def Kl (a0:List UInt8):Option (Bool×Unit):=
 bif a0==[] then
  some (false,())
 else
  bif decide (((List.length a0:Int))>40) then
   some (false,())
  else
   Option.bind (sG a0 0) fun c1=>
   bif decide ((c1.toNat:Int)<97) then
    some (false,())
   else
    Option.bind (sG a0 0) fun c2=>
    bif decide ((c2.toNat:Int)>122) then
     some (false,())
    else
     aL (β:=(Bool×Unit)) (γ:=Unit) (
      iter (X:=CX) (β:=CW) (List.length a0+(Int.natAbs ((List.length a0:Int))+(Int.natAbs (0:Int)+2))) (a0,(List.length a0:Int),0,()) (xB)) fun _=>
     some (true,())
def kZ (a0:List UInt8):Option (Bool×Unit):=
 Option.bind (Kl a0) fun r1=>
 some (r1.1,())
def wj (a0:Int) (a1:Int) (a2:Int):Option (Bool×Unit):=
 bif decide (a1≤a0) then
  some (decide (a0≤a2),())
 else
  some (false,())
def MP (a0:Int):Option (Bool×Unit):=
 Option.bind (wj a0 1 3652059) fun r1=>
 some (r1.1,())
def yQ (a0:Int):Option (Bool×Unit):=
 Option.bind (MP a0) fun r1=>
 some (r1.1,())
def jT (a0:ah):Option (Int×Unit):=
 Option.bind (wj a0.1 (-1000000000000000) 1000000000000000) fun r1=>
 bif !r1.1 then
  some (1,())
 else
  Option.bind (wj a0.2 0 9) fun r2=>
  bif !r2.1 then
   some (1,())
  else
   some (0,())
def Uv (a0:ah) (a1:ah):Option (Int×Unit):=
 Option.bind (BD a0 9) fun r1=>
 Option.bind (BD a1 9) fun r2=>
 Option.bind (Kk r1.1 r2.1) fun r3=>
 some (r3.1,())
abbrev xu:Type:=Int×Int×Int×Int×Unit
abbrev xq:Type:=((ah×Unit) ⊕ (Int×Int×Int×Int×Unit))
def xo (x1:xu) (again:xu→Option xq):Option xq:=
 match x1 with
 | (A,B,C,D,_)=>
 bif decide (B>0) then
  bif (Int.tmod A 10)==0 then
   again (w64 (Int.tdiv A 10),w64 (B - 1),C,D,())
  else
   some (Sum.inr (A,B,C,D,()))
 else
  some (Sum.inr (A,B,C,D,()))
def ff (a0:ah):Option (ah×Unit):=
 aL (β:=(ah×Unit)) (γ:=(Int×Int×Int×Int×Unit)) (
  iter (X:=xu) (β:=xq) (a0.1.natAbs+(a0.2.natAbs+(Int.natAbs (0:Int)+(Int.natAbs (0:Int)+2)))) (a0.1,a0.2,0,0,()) (xo)) fun v2=>
 some ((v2.1,v2.2.1),())
end Go.Md
