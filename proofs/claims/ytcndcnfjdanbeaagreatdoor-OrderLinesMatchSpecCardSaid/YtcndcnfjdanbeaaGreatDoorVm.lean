/-
  The plain models of the functions that the law reaches, first part. No condition.
-/
import Derived.Test.YtcndcnfjdanbeaaGreatDoorVd
import Derived.Lib.SlTrimSet
set_option linter.all false
namespace Go.Md
open Go.Dn
def ku (s c:List UInt8):Option (List UInt8×Unit):=
 bif decide (s.length≤9223372036854775807)&&(decide (c.length<4294967281)&&c.all fun b=>decide (b.toNat<128)) then some (Lib.trimS s c,()) else none
abbrev an:Ty:=(.st (.pair tI tI))
abbrev aa:Type:=Int×Int
abbrev TO:Type:=Int×aa×(List (List UInt8))
abbrev aP:Ty:=(.st (.pair .bool (.slice tI)))
abbrev au:Type:=Bool×(List Int)
abbrev qF:Type:=(List UInt8)×Int×aa×Int×Int×Int
abbrev r0:Type:=qF×Int×Int×Int×Int
abbrev cz:Ty:=(.st (.pair .bool (.slice (.int .u32))))
abbrev bu:Type:=Bool×(List Int)
def eY (a0:List UInt8):Option (Bool×Unit):=
 bif decide (((List.length a0:Int))<1) then
  some (false,())
 else
  bif decide (((List.length a0:Int))>40) then
   some (false,())
  else
   Option.bind (uy a0 0) fun c1=>
   bif decide ((c1.toNat:Int)<97) then
    some (false,())
   else
    Option.bind (uy a0 0) fun c2=>
    bif decide ((c2.toNat:Int)>122) then
     some (false,())
    else
     Option.bind (ku a0 [97,98,99,100,101,102,103,104,105,106,107,108,109,110,111,112,113,114,115,116,117,118,119,120,121,122,48,49,50,51,52,53,54,55,56,57,45]) fun r3=>
     some (r3.1==[],())
def cX (a0:Int) (a1:Int) (a2:Int):Option (Bool×Unit):=
 bif decide (a0<a1) then
  some (true,())
 else
  some (decide (a0>a2),())
def ou (a0:Int):Option (Bool×Unit):=
 Option.bind (cX a0 1 3652059) fun r1=>
 some (!r1.1,())
def eP (a0:aa):Option (Int×Unit):=
 Option.bind (cX a0.1 (-1000000000000000) 1000000000000000) fun r1=>
 bif r1.1 then
  some (1,())
 else
  Option.bind (cX a0.2 0 9) fun r2=>
  bif r2.1 then
   some (1,())
  else
   some (0,())
abbrev xk:Type:=Int×Int×Int×Unit
abbrev xj:Type:=((Int×Unit) ⊕ (Int×Unit))
def xh (x1:xk) (again:xk→Option xj):Option xj:=
 bif decide (x1.2.2.1<x1.2.1) then
  again (w64 (x1.1*10),x1.2.1,w64 (x1.2.2.1+1),())
 else
  some (Sum.inr (x1.1,()))
def P3 (a0:Int):Option (Int×Unit):=
 aJ (β:=(Int×Unit)) (γ:=(Int×Unit)) (
  iter (X:=xk) (β:=xj) (Int.natAbs (1:Int)+(Int.natAbs a0+(Int.natAbs (0:Int)+2))) (1,a0,0,()) (xh)) fun v2=>
 some (v2.1,())
abbrev o7:Type:=(List (List UInt8))×(List UInt8)×Int×Int×Unit
abbrev oZ:Type:=((Int×Unit) ⊕ Unit)
def HD (x1:o7) (again:o7→Option oZ):Option oZ:=
 match x1 with
 | (A,B,C,D,_)=>
 bif decide (D<C) then
  Option.bind (idx A D) fun y2=>
  bif B==y2 then
   some (Sum.inl (D,()))
  else
   again (A,B,C,w64 (D+1),())
 else
  some (Sum.inr ())
def AD (a0:List (List UInt8)) (a1:List UInt8):Option (Int×Unit):=
 aJ (β:=(Int×Unit)) (γ:=Unit) (
  iter (X:=o7) (β:=oZ) (List.length a0+(List.length a1+(Int.natAbs ((List.length a0:Int))+(Int.natAbs (0:Int)+2)))) (a0,a1,(List.length a0:Int),0,()) (HD)) fun _=>
 some ((-1),())
abbrev nk:Type:=(List Int)×Unit
abbrev yb:Type:=(((List Int)×Unit) ⊕ ((List Int)×Unit))
def x9 (x1:nk) (again:nk→Option yb):Option yb:=
 bif decide (((x1.1.length:Int))>0) then
  Option.bind (idx x1.1 (w64 (((x1.1.length:Int)) - 1))) fun y2=>
  bif y2==0 then
   chk (decide (0≤(0:Int))&&decide ((0:Int)≤(w64 (((x1.1.length:Int)) - 1)))&&decide ((w64 (((x1.1.length:Int)) - 1))≤(x1.1.length:Int))) <|
   again (List.drop 0 (List.take (Int.toNat (w64 (((x1.1.length:Int)) - 1))) x1.1),())
  else
   some (Sum.inr (x1.1,()))
 else
  some (Sum.inr (x1.1,()))
def nU (a0:List Int):Option ((List Int)×Unit):=
 aJ (β:=((List Int)×Unit)) (γ:=((List Int)×Unit)) (
  iter (X:=nk) (β:=yb) (List.length a0+2) (a0,()) (x9)) fun v3=>
 some (v3.1,())
def gP (a0:Bool) (a1:List Int):Option (bu×Unit):=
 Option.bind (nU a1) fun r1=>
 bif a0 then
  some ((decide (((r1.1.length:Int))>0),r1.1),())
 else
  some ((false,r1.1),())
def ja (a0:Int):Option (bu×Unit):=
 aJ (β:=(bu×Unit)) (γ:=(Int×Int×Bool×(List Int)×Unit)) (
  bif decide (a0<0) then
   some (Sum.inr (a0,bY (0 - (bY a0)),false,[],()))
  else
   some (Sum.inr (a0,bY a0,false,[],()))) fun v1=>
 Option.bind (gP (decide (v1.1<0)) [(lB v1.2.1),(lB (Int.fdiv v1.2.1 (2 ^ 32)))]) fun r2=>
 some (r2.1,())
abbrev uQ:Type:=(List Int)×(List Int)×Int×(List Int)×Int×Int×Unit
abbrev uP:Type:=(((List Int)×Unit) ⊕ ((List Int)×Int×Unit))
def uO (x1:uQ) (again:uQ→Option uP):Option uP:=
 match x1 with
 | (A,B,C,D,E,F,_)=>
 bif decide (F<E) then
  Option.bind (idx D F) fun y2=>
  aJ (β:=(((List Int)×Unit) ⊕ ((List Int)×Int×Unit))) (γ:=((List Int)×(List Int)×Int×(List Int)×Int×Int×Unit)) (
   bif decide (F<((A.length:Int))) then
    Option.bind (idx A F) fun y3=>
    let n4:Int:=bY ((bY (C+(bY y2)))+(bY y3))
    some (Sum.inr (A,B,n4,D,E,F,()))
   else
    some (Sum.inr (A,B,bY (C+(bY y2)),D,E,F,()))) fun v5=>
  chk (decide (((v5.2.1.length)+1)*4≤140737488355328)&&decide ((v5.2.1.length)+1≤maxLen)) <|
  again (v5.1,v5.2.1++[(lB v5.2.2.1)],Int.fdiv v5.2.2.1 (2 ^ 32),v5.2.2.2.1,v5.2.2.2.2.1,w64 (v5.2.2.2.2.2.1+1),())
 else
  some (Sum.inr (B,C,()))
def Ct (a0:List Int) (a1:List Int):Option ((List Int)×Unit):=
 aJ (β:=((List Int)×Unit)) (γ:=((List Int)×(List Int)×Unit)) (
  bif decide (((List.length a0:Int))<((List.length a1:Int))) then
   some (Sum.inr (a1,a0,()))
  else
   some (Sum.inr (a0,a1,()))) fun v1=>
 chk (decide (0≤(0:Int))&&decide ((0:Int)≤(w64 (((v1.1.length:Int))+1)))&&decide ((4:Int)*(w64 (((v1.1.length:Int))+1))≤281474976710656)&&decide ((w64 (((v1.1.length:Int))+1))≤9223372036854775807)) <|
 aJ (β:=((List Int)×Unit)) (γ:=((List Int)×Int×Unit)) (
  iter (X:=uQ) (β:=uP) (v1.2.1.length+(List.length ([]:List Int)+(Int.natAbs (0:Int)+(v1.1.length+(Int.natAbs ((v1.1.length:Int))+(Int.natAbs (0:Int)+2)))))) (v1.2.1,[],0,v1.1,(v1.1.length:Int),0,()) (uO)) fun v7=>
 chk (decide (((v7.1.length)+1)*4≤140737488355328)&&decide ((v7.1.length)+1≤maxLen)) <|
 some (v7.1++[(lB v7.2.1)],())
abbrev rz:Type:=(List Int)×(List Int)×Int×Unit
abbrev ry:Type:=((Int×Unit) ⊕ Unit)
def nj (x1:rz) (again:rz→Option ry):Option ry:=
 match x1 with
 | (A,B,C,_)=>
 bif decide (C≥0) then
  Option.bind (idx A C) fun y2=>
  Option.bind (idx B C) fun y3=>
  bif y2 != y3 then
   Option.bind (idx A C) fun y4=>
   Option.bind (idx B C) fun y5=>
   bif decide (y4<y5) then
    some (Sum.inl ((-1),()))
   else
    some (Sum.inl (1,()))
  else
   again (A,B,w64 (C - 1),())
 else
  some (Sum.inr ())
def rZ (a0:List Int) (a1:List Int):Option (Int×Unit):=
 bif ((List.length a0:Int)) != ((List.length a1:Int)) then
  some (w64 (((List.length a0:Int)) - ((List.length a1:Int))),())
 else
  aJ (β:=(Int×Unit)) (γ:=Unit) (
   iter (X:=rz) (β:=ry) (List.length a0+(List.length a1+(Int.natAbs (w64 (((List.length a0:Int)) - 1))+2))) (a0,a1,w64 (((List.length a0:Int)) - 1),()) (nj)) fun _=>
  some (0,())
abbrev xS:Type:=(List Int)×(List Int)×Int×(List Int)×Int×Int×Unit
abbrev xR:Type:=(((List Int)×Unit) ⊕ ((List Int)×Unit))
def xQ (x1:xS) (again:xS→Option xR):Option xR:=
 match x1 with
 | (A,B,C,D,E,F,_)=>
 bif decide (F<E) then
  Option.bind (idx D F) fun y2=>
  aJ (β:=(((List Int)×Unit) ⊕ ((List Int)×Unit))) (γ:=((List Int)×(List Int)×Int×(List Int)×Int×Int×Unit)) (
   bif decide (F<((A.length:Int))) then
    Option.bind (idx A F) fun y3=>
    let n4:Int:=bY ((bY ((bY y2) - C)) - (bY y3))
    some (Sum.inr (A,B,n4,D,E,F,()))
   else
    some (Sum.inr (A,B,bY ((bY y2) - C),D,E,F,()))) fun v5=>
  chk (decide (((v5.2.1.length)+1)*4≤140737488355328)&&decide ((v5.2.1.length)+1≤maxLen)) <|
  again (v5.1,v5.2.1++[(lB v5.2.2.1)],bY (((BitVec.ofInt (IntKind.bits .u64) (Int.fdiv v5.2.2.1 (2 ^ 32)) &&& BitVec.ofInt (IntKind.bits .u64) 1).toNat:Int)),v5.2.2.2.1,v5.2.2.2.2.1,w64 (v5.2.2.2.2.2.1+1),())
 else
  some (Sum.inr (B,()))
def vo (a0:List Int) (a1:List Int):Option ((List Int)×Unit):=
 chk (decide (0≤(0:Int))&&decide ((0:Int)≤((List.length a0:Int)))&&decide ((4:Int)*((List.length a0:Int))≤281474976710656)&&decide (((List.length a0:Int))≤9223372036854775807)) <|
 aJ (β:=((List Int)×Unit)) (γ:=((List Int)×Unit)) (
  iter (X:=xS) (β:=xR) (List.length a1+(List.length ([]:List Int)+(Int.natAbs (0:Int)+(List.length a0+(Int.natAbs ((List.length a0:Int))+(Int.natAbs (0:Int)+2)))))) (a1,[],0,a0,(List.length a0:Int),0,()) (xQ)) fun v6=>
 Option.bind (nU v6.1) fun r7=>
 some (r7.1,())
abbrev td:Type:=(List Int)×Int×Bool×(List Int)×Bool×(List Int)×Bool×(List Int)×Bool×(List Int)×(List Int)×Unit
abbrev tc:Type:=((bu×bu×Unit) ⊕ ((List Int)×Bool×(List Int)×Bool×(List Int)×(List Int)×Unit))
def s9 (x1:td) (again:td→Option tc):Option tc:=
 match x1 with
 | (A,B,C,D,E,F,G,H,I,J,K,_)=>
 bif decide (B≥0) then
  Option.bind (Ct A A) fun r2=>
  chk (decide (0≤(0:Int))&&decide ((0:Int)<(r2.1.length:Int))) <|
  Option.bind (r2.1[0]?) fun y3=>
  Option.bind (idx D (w64 (Int.tdiv B 32))) fun y4=>
  chk (decide (0≤(Int.tmod B 32))) <|
  let n5:Int:=lB (((BitVec.ofInt (IntKind.bits .u32) (Int.fdiv y4 (2 ^ (min (Int.toNat (Int.tmod B 32)) (IntKind.bits .u32)))) &&& BitVec.ofInt (IntKind.bits .u32) 1).toNat:Int))
  chk (decide (0≤(0:Int))&&decide ((0:Int)<(r2.1.length:Int))) <|
  Option.bind (r2.1[0]?) fun _=>
  Option.bind (nU (List.set r2.1 0 (lB (((BitVec.ofInt (IntKind.bits .u32) y3 ||| BitVec.ofInt (IntKind.bits .u32) n5).toNat:Int))))) fun r6=>
  Option.bind (rZ r6.1 F) fun r7=>
  bif decide (r7.1≥0) then
   Option.bind (vo r6.1 F) fun r8=>
   chk (decide (0≤(w64 (Int.tdiv B 32)))&&decide ((w64 (Int.tdiv B 32))<(K.length:Int))) <|
   Option.bind (K[(w64 (Int.tdiv B 32)).toNat]?) fun y9=>
   chk (decide (0≤(Int.tmod B 32))) <|
   let n10:Int:=lB (((BitVec.ofInt (IntKind.bits .u32) y9 ||| BitVec.ofInt (IntKind.bits .u32) (lB (1*2 ^ (min (Int.toNat (Int.tmod B 32)) (IntKind.bits .u32))))).toNat:Int))
   chk (decide (0≤(w64 (Int.tdiv B 32)))&&decide ((w64 (Int.tdiv B 32))<(K.length:Int))) <|
   Option.bind (K[(w64 (Int.tdiv B 32)).toNat]?) fun _=>
   again (r8.1,w64 (B - 1),C,D,E,F,G,H,I,J,List.set K (w64 (Int.tdiv B 32)).toNat n10,())
  else
   again (r6.1,w64 (B - 1),C,D,E,F,G,H,I,J,K,())
 else
  some (Sum.inr (A,G,H,I,J,K,()))
def qq (a0:bu) (a1:bu):Option (bu×bu×Unit):=
 chk (decide (0≤((a0.2.length:Int)))&&decide (((a0.2.length:Int))≤((a0.2.length:Int)))&&decide ((4:Int)*((a0.2.length:Int))≤281474976710656)&&decide (((a0.2.length:Int))≤9223372036854775807)) <|
 let n1:Int:=w64 ((w64 (((a0.2.length:Int))*32)) - 1)
 aJ (β:=(bu×bu×Unit)) (γ:=((List Int)×Bool×(List Int)×Bool×(List Int)×(List Int)×Unit)) (
  iter (X:=td) (β:=tc) (List.length ([]:List Int)+(Int.natAbs n1+(a0.2.length+(a1.2.length+(List.length ([]:List Int)+(List.length ([]:List Int)+(List.length ((List.replicate (Int.toNat ((a0.2.length:Int))) 0):List Int)+2))))))) ([],n1,a0.1,a0.2,a1.1,a1.2,false,[],false,[],List.replicate (Int.toNat ((a0.2.length:Int))) 0,()) (s9)) fun v14=>
 Option.bind (gP false v14.2.2.2.2.2.1) fun r15=>
 Option.bind (gP false v14.1) fun r16=>
 some (r15.1,r16.1,())
def fX (a0:bu):Option (Int×Unit):=
 bif a0.1 then
  some ((-1),())
 else
  bif ((a0.2.length:Int))==0 then
   some (0,())
  else
   some (1,())
def kY (a0:bu):Option (bu×Unit):=
 Option.bind (gP (!a0.1) a0.2) fun r1=>
 some (r1.1,())
abbrev ru:Type:=Int×Int×(List Int)×Int×Int×Bool×(List Int)×Unit
abbrev rq:Type:=((Int×Bool×Unit) ⊕ (Int×Int×Bool×(List Int)×Unit))
def rj (x1:ru) (again:ru→Option rq):Option rq:=
 match x1 with
 | (A,B,C,D,E,F,G,_)=>
 bif decide (E<D) then
  Option.bind (idx C E) fun y2=>
  chk (decide (0≤(w64 (32*E)))) <|
  let n3:Int:=bY ((bY y2)*2 ^ (min (Int.toNat (w64 (32*E))) (IntKind.bits .u64)))
  again (A,bY (((BitVec.ofInt (IntKind.bits .u64) B ||| BitVec.ofInt (IntKind.bits .u64) n3).toNat:Int)),C,D,w64 (E+1),F,G,())
 else
  some (Sum.inr (A,B,F,G,()))
def xP (a0:bu) (a1:Int):Option (Int×Bool×Unit):=
 bif decide (((a0.2.length:Int))>2) then
  some (0,false,())
 else
  aJ (β:=(Int×Bool×Unit)) (γ:=(Int×Int×Bool×(List Int)×Unit)) (
   iter (X:=ru) (β:=rq) (Int.natAbs a1+(Int.natAbs (0:Int)+(a0.2.length+(Int.natAbs ((a0.2.length:Int))+(Int.natAbs (0:Int)+(a0.2.length+2)))))) (a1,0,a0.2,(a0.2.length:Int),0,a0.1,a0.2,()) (rj)) fun v4=>
  bif decide (v4.2.1>(bY v4.1)) then
   some (0,false,())
  else
   bif v4.2.2.1 then
    some (w64 (0 - (w64 v4.2.1)),true,())
   else
    some (w64 v4.2.1,true,())
def iF (a0:bu) (a1:Int):Option (aa×Int×Unit):=
 Option.bind (xP a0 1000000000000000) fun r1=>
 bif !r1.2.1 then
  some ((0,0),1,())
 else
  some ((r1.1,a1),0,())
abbrev qI:Type:=Int×Bool×(List Int)×Int×Int×Bool×(List Int)×Unit
abbrev qH:Type:=((aa×Int×Unit) ⊕ (Int×Bool×(List Int)×Int×Int×Unit))
def qG (x1:qI) (again:qI→Option qH):Option qH:=
 match x1 with
 | (A,B,C,D,E,F,G,_)=>
 bif decide (A>0) then
  Option.bind (qq (B,C) (F,G)) fun r2=>
  Option.bind (fX r2.2.1) fun r3=>
  bif r3.1 != 0 then
   some (Sum.inr (A,B,C,D,E,()))
  else
   Option.bind (fX (B,C)) fun r4=>
   bif decide (r4.1<0) then
    Option.bind (kY r2.1) fun r5=>
    again (w64 (A - 1),r5.1.1,r5.1.2,D,E,F,G,())
   else
    again (w64 (A - 1),r2.1.1,r2.1.2,D,E,F,G,())
 else
  some (Sum.inr (A,B,C,D,E,()))
def xb (a0:bu) (a1:Int):Option (aa×Int×Unit):=
 Option.bind (ja 10) fun r1=>
 aJ (β:=(aa×Int×Unit)) (γ:=(Int×Bool×(List Int)×Int×Int×Unit)) (
  iter (X:=qI) (β:=qH) (Int.natAbs a1+(a0.2.length+(Int.natAbs (0:Int)+(Int.natAbs (0:Int)+(r1.1.2.length+2))))) (a1,a0.1,a0.2,0,0,r1.1.1,r1.1.2,()) (qG)) fun v7=>
 Option.bind (iF (v7.2.1,v7.2.2.1) v7.1) fun r8=>
 some (r8.1,r8.2.1,())
abbrev E4:Type:=Int×Bool×(List Int)×Bool×(List Int)×Unit
abbrev E3:Type:=((au×Unit) ⊕ (Bool×(List Int)×Bool×(List Int)×Unit))
def x5 (x1:E4) (again:E4→Option E3):Option E3:=
 match x1 with
 | (A,B,C,D,E,_)=>
 bif A != 0 then
  chk (decide (((E.length)+1)*8≤140737488355328)&&decide ((E.length)+1≤maxLen)) <|
  again (w64 (Int.tdiv A 1000000),B,C,D,E++[(if (w64 (0 - (Int.tmod A 1000000)))>(Int.tmod A 1000000) then (w64 (0 - (Int.tmod A 1000000))) else (Int.tmod A 1000000))],())
 else
  some (Sum.inr (B,C,D,E,()))
def xC (a0:Int):Option (au×Unit):=
 aJ (β:=(au×Unit)) (γ:=(Bool×(List Int)×Bool×(List Int)×Unit)) (
  iter (X:=E4) (β:=E3) (Int.natAbs a0+(List.length ([]:List Int)+(List.length ([]:List Int)+2))) (a0,false,[],decide (a0<0),[],()) (x5)) fun v2=>
 some ((v2.2.2.1,v2.2.2.2.1),())
abbrev rR:Type:=Bool×(List Int)×Bool×(List Int)×Unit
abbrev CR:Type:=((au×Unit) ⊕ (Bool×(List Int)×Bool×(List Int)×Unit))
def CQ (x1:rR) (again:rR→Option CR):Option CR:=
 match x1 with
 | (A,B,C,D,_)=>
 bif decide (((B.length:Int))>0) then
  Option.bind (idx B (w64 (((B.length:Int)) - 1))) fun y2=>
  bif y2==0 then
   chk (decide (0≤(0:Int))&&decide ((0:Int)≤(w64 (((B.length:Int)) - 1)))&&decide ((w64 (((B.length:Int)) - 1))≤(B.length:Int))) <|
   again (A,List.drop 0 (List.take (Int.toNat (w64 (((B.length:Int)) - 1))) B),C,D,())
  else
   some (Sum.inr (A,B,C,D,()))
 else
  some (Sum.inr (A,B,C,D,()))
def lX (a0:au):Option (au×Unit):=
 aJ (β:=(au×Unit)) (γ:=(Bool×(List Int)×Bool×(List Int)×Unit)) (
  iter (X:=rR) (β:=CR) (a0.2.length+(List.length ([]:List Int)+2)) (a0.1,a0.2,false,[],()) (CQ)) fun v3=>
 bif ((v3.2.1.length:Int))==0 then
  some ((false,v3.2.1),())
 else
  some ((v3.1,v3.2.1),())
abbrev xI:Type:=Int×Int×(List Int)×Int×Int×(List Int)×Int×Int×Bool×(List Int)×Bool×(List Int)×Bool×(List Int)×Unit
abbrev xG:Type:=(((au×Unit) ⊕ (Bool×(List Int)×Bool×(List Int)×Unit)) ⊕ ((List Int)×Int×Int×Bool×(List Int)×Bool×(List Int)×Bool×(List Int)×Unit))
def xE (x1:xI) (again:xI→Option xG):Option xG:=
 match x1 with
 | (A,B,C,D,E,F,G,H,I,J,K,L,M,N,_)=>
 bif decide (H<G) then
  Option.bind (idx F H) fun y2=>
  chk (decide (0≤(w64 (A+H)))&&decide ((w64 (A+H))<(N.length:Int))) <|
  Option.bind (N[(w64 (A+H)).toNat]?) fun y3=>
  chk (decide (0≤(w64 (A+H)))&&decide ((w64 (A+H))<(N.length:Int))) <|
  Option.bind (N[(w64 (A+H)).toNat]?) fun _=>
  chk (decide (0≤(w64 ((w64 (A+H))+1)))&&decide ((w64 ((w64 (A+H))+1))<(List.length (List.set N (w64 (A+H)).toNat (w64 (y3+(w64 (B*y2))))):Int))) <|
  Option.bind ((List.set N (w64 (A+H)).toNat (w64 (y3+(w64 (B*y2)))))[(w64 ((w64 (A+H))+1)).toNat]?) fun y4=>
  chk (decide (0≤(w64 (A+H)))&&decide ((w64 (A+H))<(List.length (List.set N (w64 (A+H)).toNat (w64 (y3+(w64 (B*y2))))):Int))) <|
  Option.bind ((List.set N (w64 (A+H)).toNat (w64 (y3+(w64 (B*y2)))))[(w64 (A+H)).toNat]?) fun y5=>
  chk (decide (0≤(w64 ((w64 (A+H))+1)))&&decide ((w64 ((w64 (A+H))+1))<(List.length (List.set N (w64 (A+H)).toNat (w64 (y3+(w64 (B*y2))))):Int))) <|
  Option.bind ((List.set N (w64 (A+H)).toNat (w64 (y3+(w64 (B*y2)))))[(w64 ((w64 (A+H))+1)).toNat]?) fun _=>
  chk (decide (0≤(w64 (A+H)))&&decide ((w64 (A+H))<(List.length (List.set (List.set N (w64 (A+H)).toNat (w64 (y3+(w64 (B*y2))))) (w64 ((w64 (A+H))+1)).toNat (w64 (y4+(w64 (Int.tdiv y5 1000000))))):Int))) <|
  Option.bind ((List.set (List.set N (w64 (A+H)).toNat (w64 (y3+(w64 (B*y2))))) (w64 ((w64 (A+H))+1)).toNat (w64 (y4+(w64 (Int.tdiv y5 1000000)))))[(w64 (A+H)).toNat]?) fun y6=>
  chk (decide (0≤(w64 (A+H)))&&decide ((w64 (A+H))<(List.length (List.set (List.set N (w64 (A+H)).toNat (w64 (y3+(w64 (B*y2))))) (w64 ((w64 (A+H))+1)).toNat (w64 (y4+(w64 (Int.tdiv y5 1000000))))):Int))) <|
  Option.bind ((List.set (List.set N (w64 (A+H)).toNat (w64 (y3+(w64 (B*y2))))) (w64 ((w64 (A+H))+1)).toNat (w64 (y4+(w64 (Int.tdiv y5 1000000)))))[(w64 (A+H)).toNat]?) fun _=>
  again (A,B,C,D,E,F,G,w64 (H+1),I,J,K,L,M,List.set (List.set (List.set N (w64 (A+H)).toNat (w64 (y3+(w64 (B*y2))))) (w64 ((w64 (A+H))+1)).toNat (w64 (y4+(w64 (Int.tdiv y5 1000000))))) (w64 (A+H)).toNat (Int.tmod y6 1000000),())
 else
  some (Sum.inr (C,D,E,I,J,K,L,M,N,()))
abbrev xH:Type:=(List Int)×Int×Int×Bool×(List Int)×Bool×(List Int)×Bool×(List Int)×Unit
abbrev xF:Type:=((au×Unit) ⊕ (Bool×(List Int)×Bool×(List Int)×Unit))
def xD (x1:xH) (again:xH→Option xF):Option xF:=
 match x1 with
 | (A,B,C,D,E,F,G,H,I,_)=>
 bif decide (C<B) then
  Option.bind (idx A C) fun y2=>
  aJ (β:=((au×Unit) ⊕ (Bool×(List Int)×Bool×(List Int)×Unit))) (γ:=((List Int)×Int×Int×Bool×(List Int)×Bool×(List Int)×Bool×(List Int)×Unit)) (
   iter (X:=xI) (β:=xG) (C.natAbs+(Int.natAbs y2+(A.length+(B.natAbs+(C.natAbs+(E.length+(Int.natAbs ((E.length:Int))+(Int.natAbs (0:Int)+(E.length+(G.length+(I.length+2))))))))))) (C,y2,A,B,C,E,(E.length:Int),0,D,E,F,G,H,I,()) (xE)) fun v3=>
  again (v3.1,v3.2.1,w64 (v3.2.2.1+1),v3.2.2.2.1,v3.2.2.2.2.1,v3.2.2.2.2.2.1,v3.2.2.2.2.2.2.1,v3.2.2.2.2.2.2.2.1,v3.2.2.2.2.2.2.2.2.1,())
 else
  some (Sum.inr (F,G,H,I,()))
abbrev vk:Type:=Int×Int×Bool×(List Int)×Bool×(List Int)×Unit
abbrev vj:Type:=((au×Unit) ⊕ (Bool×(List Int)×Bool×(List Int)×Unit))
def vi (x1:vk) (again:vk→Option vj):Option vj:=
 match x1 with
 | (A,B,C,D,E,F,_)=>
 bif decide (B<A) then
  chk (decide (0≤(w64 (B+1)))&&decide ((w64 (B+1))<(F.length:Int))) <|
  Option.bind (F[(w64 (B+1)).toNat]?) fun y2=>
  chk (decide (0≤B)&&decide (B<(F.length:Int))) <|
  Option.bind (F[B.toNat]?) fun y3=>
  chk (decide (0≤(w64 (B+1)))&&decide ((w64 (B+1))<(F.length:Int))) <|
  Option.bind (F[(w64 (B+1)).toNat]?) fun _=>
  chk (decide (0≤B)&&decide (B<(List.length (List.set F (w64 (B+1)).toNat (w64 (y2+(w64 (Int.tdiv y3 1000000))))):Int))) <|
  Option.bind ((List.set F (w64 (B+1)).toNat (w64 (y2+(w64 (Int.tdiv y3 1000000)))))[B.toNat]?) fun y4=>
  chk (decide (0≤B)&&decide (B<(List.length (List.set F (w64 (B+1)).toNat (w64 (y2+(w64 (Int.tdiv y3 1000000))))):Int))) <|
  Option.bind ((List.set F (w64 (B+1)).toNat (w64 (y2+(w64 (Int.tdiv y3 1000000)))))[B.toNat]?) fun _=>
  again (A,w64 (B+1),C,D,E,List.set (List.set F (w64 (B+1)).toNat (w64 (y2+(w64 (Int.tdiv y3 1000000))))) B.toNat (Int.tmod y4 1000000),())
 else
  some (Sum.inr (C,D,E,F,()))
def lW (a0:au) (a1:au):Option (au×Unit):=
 let n1:Int:=w64 ((w64 (((a0.2.length:Int))+((a1.2.length:Int))))+1)
 chk (decide (0≤n1)&&decide (n1≤n1)&&decide ((8:Int)*n1≤281474976710656)&&decide (n1≤9223372036854775807)) <|
 aJ (β:=(au×Unit)) (γ:=(Bool×(List Int)×Bool×(List Int)×Unit)) (
  iter (X:=xH) (β:=xF) (a0.2.length+(Int.natAbs ((a0.2.length:Int))+(Int.natAbs (0:Int)+(a1.2.length+(List.length ([]:List Int)+(List.length ((List.replicate (Int.toNat n1) 0):List Int)+2)))))) (a0.2,(a0.2.length:Int),0,a1.1,a1.2,false,[], !(a0.1==a1.1),List.replicate (Int.toNat n1) 0,()) (xD)) fun v14=>
 aJ (β:=(au×Unit)) (γ:=(Bool×(List Int)×Bool×(List Int)×Unit)) (
  iter (X:=vk) (β:=vj) (Int.natAbs (w64 (((v14.2.2.2.1.length:Int)) - 1))+(Int.natAbs (0:Int)+(v14.2.1.length+(v14.2.2.2.1.length+2)))) (w64 (((v14.2.2.2.1.length:Int)) - 1),0,v14.1,v14.2.1,v14.2.2.1,v14.2.2.2.1,()) (vi)) fun v21=>
 Option.bind (lX (v21.2.2.1,v21.2.2.2.1)) fun r22=>
 some (r22.1,())
abbrev Bx:Type:=Int×Int×Bool×(List Int)×Bool×(List Int)×Unit
abbrev Bw:Type:=((au×Unit) ⊕ (Bool×(List Int)×Bool×(List Int)×Unit))
def Bv (x1:Bx) (again:Bx→Option Bw):Option Bw:=
 match x1 with
 | (A,B,C,D,E,F,_)=>
 bif decide (B<A) then
  Option.bind (xC 10) fun r2=>
  Option.bind (lW (E,F) r2.1) fun r3=>
  again (A,w64 (B+1),C,D,r3.1.1,r3.1.2,())
 else
  some (Sum.inr (C,D,E,F,()))
def E5 (a0:Int):Option (au×Unit):=
 Option.bind (xC 1) fun r1=>
 aJ (β:=(au×Unit)) (γ:=(Bool×(List Int)×Bool×(List Int)×Unit)) (
  iter (X:=Bx) (β:=Bw) (Int.natAbs a0+(Int.natAbs (0:Int)+(List.length ([]:List Int)+(r1.1.2.length+2)))) (a0,0,false,[],r1.1.1,r1.1.2,()) (Bv)) fun v5=>
 some ((v5.2.2.1,v5.2.2.2.1),())
def xB (a0:aa) (a1:Int):Option (au×Unit):=
 Option.bind (xC a0.1) fun r1=>
 Option.bind (E5 (w64 (a1 - a0.2))) fun r2=>
 Option.bind (lW r1.1 r2.1) fun r3=>
 some (r3.1,())
abbrev BA:Type:=(List Int)×(List Int)×Int×Unit
abbrev Bz:Type:=((Int×Unit) ⊕ Unit)
def wP (x1:BA) (again:BA→Option Bz):Option Bz:=
 match x1 with
 | (A,B,C,_)=>
 bif decide (C≥0) then
  Option.bind (idx A C) fun y2=>
  Option.bind (idx B C) fun y3=>
  bif y2 != y3 then
   Option.bind (idx A C) fun y4=>
   Option.bind (idx B C) fun y5=>
   some (Sum.inl (w64 (y4 - y5),()))
  else
   again (A,B,w64 (C - 1),())
 else
  some (Sum.inr ())
def A2 (a0:List Int) (a1:List Int):Option (Int×Unit):=
 bif ((List.length a0:Int)) != ((List.length a1:Int)) then
  some (w64 (((List.length a0:Int)) - ((List.length a1:Int))),())
 else
  aJ (β:=(Int×Unit)) (γ:=Unit) (
   iter (X:=BA) (β:=Bz) (List.length a0+(List.length a1+(Int.natAbs (w64 (((List.length a0:Int)) - 1))+2))) (a0,a1,w64 (((List.length a0:Int)) - 1),()) (wP)) fun _=>
  some (0,())
def A1 (a0:List Int) (a1:Int):Option (Int×Unit):=
 bif decide (a1<((List.length a0:Int))) then
  Option.bind (idx a0 a1) fun y1=>
  some (y1,())
 else
  some (0,())
abbrev zO:Type:=Int×Int×Int×Bool×(List Int)×Bool×(List Int)×Bool×(List Int)×Bool×(List Int)×Unit
abbrev zN:Type:=((au×Unit) ⊕ (Bool×(List Int)×Bool×(List Int)×Unit))
def zM (x1:zO) (again:zO→Option zN):Option zN:=
 match x1 with
 | (A,B,C,D,E,F,G,H,I,J,K,_)=>
 bif decide (C<B) then
  Option.bind (idx E C) fun y2=>
  Option.bind (A1 G C) fun r3=>
  aJ (β:=((au×Unit) ⊕ (Bool×(List Int)×Bool×(List Int)×Unit))) (γ:=(Int×Int×Int×Int×Bool×(List Int)×Bool×(List Int)×Bool×(List Int)×Bool×(List Int)×Unit)) (
   bif decide ((w64 ((w64 (y2 - r3.1)) - A))<0) then
    let n4:Int:=w64 ((w64 ((w64 (y2 - r3.1)) - A))+1000000)
    some (Sum.inr (1,n4,B,C,D,E,F,G,H,I,J,K,()))
   else
    some (Sum.inr (0,w64 ((w64 (y2 - r3.1)) - A),B,C,D,E,F,G,H,I,J,K,()))) fun v5=>
  chk (decide (((v5.2.2.2.2.2.2.2.2.2.2.2.1.length)+1)*8≤140737488355328)&&decide ((v5.2.2.2.2.2.2.2.2.2.2.2.1.length)+1≤maxLen)) <|
  again (v5.1,v5.2.2.1,w64 (v5.2.2.2.1+1),v5.2.2.2.2.1,v5.2.2.2.2.2.1,v5.2.2.2.2.2.2.1,v5.2.2.2.2.2.2.2.1,v5.2.2.2.2.2.2.2.2.1,v5.2.2.2.2.2.2.2.2.2.1,v5.2.2.2.2.2.2.2.2.2.2.1,v5.2.2.2.2.2.2.2.2.2.2.2.1++[v5.2.1],())
 else
  some (Sum.inr (H,I,J,K,()))
abbrev Bu:Type:=Int×Int×Int×Bool×(List Int)×Bool×(List Int)×Bool×(List Int)×Bool×(List Int)×Unit
abbrev Bt:Type:=((au×Unit) ⊕ (Bool×(List Int)×Bool×(List Int)×Unit))
def Br (x1:Bu) (again:Bu→Option Bt):Option Bt:=
 match x1 with
 | (A,B,C,D,E,F,G,H,I,J,K,_)=>
 bif decide (C<B) then
  Option.bind (A1 E C) fun r2=>
  Option.bind (A1 G C) fun r3=>
  let n4:Int:=Int.tmod (w64 ((w64 (r2.1+r3.1))+A)) 1000000
  chk (decide (((K.length)+1)*8≤140737488355328)&&decide ((K.length)+1≤maxLen)) <|
  let n5:Int:=w64 (Int.tdiv (w64 ((w64 (r2.1+r3.1))+A)) 1000000)
  again (n5,B,w64 (C+1),D,E,F,G,H,I,J,K++[n4],())
 else
  some (Sum.inr (H,I,J,K,()))
def yE (a0:au) (a1:au):Option (au×Unit):=
 bif !(a0.1==a1.1) then
  Option.bind (A2 a0.2 a1.2) fun r1=>
  aJ (β:=(au×Unit)) (γ:=(Bool×(List Int)×Bool×(List Int)×Bool×(List Int)×Unit)) (
   bif decide (r1.1<0) then
    some (Sum.inr (a1.1,a1.2,a0.1,a0.2,false,[],()))
   else
    some (Sum.inr (a0.1,a0.2,a1.1,a1.2,false,[],()))) fun v2=>
  aJ (β:=(au×Unit)) (γ:=(Bool×(List Int)×Bool×(List Int)×Unit)) (
   iter (X:=zO) (β:=zN) (Int.natAbs (0:Int)+(Int.natAbs ((v2.2.1.length:Int))+(Int.natAbs (0:Int)+(v2.2.1.length+(v2.2.2.2.1.length+(v2.2.2.2.2.2.1.length+(List.length ([]:List Int)+2))))))) (0,(v2.2.1.length:Int),0,v2.1,v2.2.1,v2.2.2.1,v2.2.2.2.1,v2.2.2.2.2.1,v2.2.2.2.2.2.1,v2.1,[],()) (zM)) fun v8=>
  Option.bind (lX (v8.2.2.1,v8.2.2.2.1)) fun r9=>
  some (r9.1,())
 else
  let n10:Int:=w64 ((if ((a1.2.length:Int))>((a0.2.length:Int)) then ((a1.2.length:Int)) else ((a0.2.length:Int)))+1)
  aJ (β:=(au×Unit)) (γ:=(Bool×(List Int)×Bool×(List Int)×Unit)) (
   iter (X:=Bu) (β:=Bt) (Int.natAbs (0:Int)+(Int.natAbs n10+(Int.natAbs (0:Int)+(a0.2.length+(a1.2.length+(List.length ([]:List Int)+(List.length ([]:List Int)+2))))))) (0,n10,0,a0.1,a0.2,a1.1,a1.2,false,[],a0.1,[],()) (Br)) fun v16=>
  Option.bind (lX (v16.2.2.1,v16.2.2.2.1)) fun r17=>
  some (r17.1,())
def A0 (a0:au):Option (au×Unit):=
 bif decide (((a0.2.length:Int))>0) then
  some ((!a0.1,a0.2),())
 else
  some (a0,())
def DW (a0:au):Option (Int×Unit):=
 bif ((a0.2.length:Int))==0 then
  some (0,())
 else
  bif a0.1 then
   some ((-1),())
  else
   some (1,())
def IV (a0:au) (a1:au):Option (Int×Unit):=
 Option.bind (A0 a1) fun r1=>
 Option.bind (yE a0 r1.1) fun r2=>
 Option.bind (DW r2.1) fun r3=>
 some (r3.1,())
end Go.Md
namespace Go.Md
open Go.Dn
abbrev E7:Type:=(List UInt8)×Int×Int×Unit
abbrev E6:Type:=((Bool×Unit) ⊕ Unit)
def zQ (x1:E7) (again:E7→Option E6):Option E6:=
 match x1 with
 | (A,B,C,_)=>
 bif decide (C<B) then
  Option.bind (uy A C) fun c2=>
  bif decide ((c2.toNat:Int)<97) then
   bif decide ((c2.toNat:Int)<48) then
    bif (c2.toNat:Int) != 45 then
     some (Sum.inl (false,()))
    else
     again (A,B,w64 (C+1),())
   else
    bif decide ((c2.toNat:Int)>57) then
     bif (c2.toNat:Int) != 45 then
      some (Sum.inl (false,()))
     else
      again (A,B,w64 (C+1),())
    else
     again (A,B,w64 (C+1),())
  else
   bif decide ((c2.toNat:Int)>122) then
    bif decide ((c2.toNat:Int)<48) then
     bif (c2.toNat:Int) != 45 then
      some (Sum.inl (false,()))
     else
      again (A,B,w64 (C+1),())
    else
     bif decide ((c2.toNat:Int)>57) then
      bif (c2.toNat:Int) != 45 then
       some (Sum.inl (false,()))
      else
       again (A,B,w64 (C+1),())
     else
      again (A,B,w64 (C+1),())
   else
    again (A,B,w64 (C+1),())
 else
  some (Sum.inr ())
def MR (a0:List UInt8):Option (Bool×Unit):=
 bif a0==[] then
  some (false,())
 else
  bif decide (((List.length a0:Int))>40) then
   some (false,())
  else
   Option.bind (uy a0 0) fun c1=>
   bif decide ((c1.toNat:Int)<97) then
    some (false,())
   else
    Option.bind (uy a0 0) fun c2=>
    bif decide ((c2.toNat:Int)>122) then
     some (false,())
    else
     aJ (β:=(Bool×Unit)) (γ:=Unit) (
      iter (X:=E7) (β:=E6) (List.length a0+(Int.natAbs ((List.length a0:Int))+(Int.natAbs (0:Int)+2))) (a0,(List.length a0:Int),0,()) (zQ)) fun _=>
     some (true,())
def mg (a0:List UInt8):Option (Bool×Unit):=
 Option.bind (MR a0) fun r1=>
 some (r1.1,())
def yF (a0:Int) (a1:Int) (a2:Int):Option (Bool×Unit):=
 bif decide (a1≤a0) then
  some (decide (a0≤a2),())
 else
  some (false,())
def PE (a0:Int):Option (Bool×Unit):=
 Option.bind (yF a0 1 3652059) fun r1=>
 some (r1.1,())
def um (a0:Int):Option (Bool×Unit):=
 Option.bind (PE a0) fun r1=>
 some (r1.1,())
def eZ (a0:aa):Option (Int×Unit):=
 Option.bind (yF a0.1 (-1000000000000000) 1000000000000000) fun r1=>
 bif !r1.1 then
  some (1,())
 else
  Option.bind (yF a0.2 0 9) fun r2=>
  bif !r2.1 then
   some (1,())
  else
   some (0,())
def XO (a0:aa) (a1:aa):Option (Int×Unit):=
 Option.bind (xB a0 9) fun r1=>
 Option.bind (xB a1 9) fun r2=>
 Option.bind (IV r1.1 r2.1) fun r3=>
 some (r3.1,())
abbrev zL:Type:=Int×Int×Int×Int×Unit
abbrev zK:Type:=((aa×Unit) ⊕ (Int×Int×Int×Int×Unit))
def zI (x1:zL) (again:zL→Option zK):Option zK:=
 match x1 with
 | (A,B,C,D,_)=>
 bif decide (B>0) then
  bif (Int.tmod A 10)==0 then
   again (w64 (Int.tdiv A 10),w64 (B - 1),C,D,())
  else
   some (Sum.inr (A,B,C,D,()))
 else
  some (Sum.inr (A,B,C,D,()))
def eN (a0:aa):Option (aa×Unit):=
 aJ (β:=(aa×Unit)) (γ:=(Int×Int×Int×Int×Unit)) (
  iter (X:=zL) (β:=zK) (a0.1.natAbs+(a0.2.natAbs+(Int.natAbs (0:Int)+(Int.natAbs (0:Int)+2)))) (a0.1,a0.2,0,0,()) (zI)) fun v2=>
 some ((v2.1,v2.2.1),())
end Go.Md
