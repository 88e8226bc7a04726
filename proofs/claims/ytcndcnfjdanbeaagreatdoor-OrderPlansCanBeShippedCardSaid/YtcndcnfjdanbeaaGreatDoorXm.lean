/-
  The plain models of the functions that the law reaches, first part. No condition.
-/
import Derived.Test.YtcndcnfjdanbeaaGreatDoorXd
import Derived.Lib.SlTrimSet
set_option linter.all false
namespace Go.Md
open Go.Dn
abbrev Bys:Type:=List UInt8
def p9 (s c:Bys):Option (Bys×Unit):=
 bif decide (s.length≤9223372036854775807)&&(decide (c.length<4294967281)&&c.all fun b=>decide (b.toNat<128)) then some (Lib.trimS s c,()) else none
abbrev az:Ty:=(.st (.pair tI tI))
abbrev ah:Type:=Int×Int
abbrev MY:Type:=Int×ah×(List Bys)
abbrev CY:Type:=Bool×(List Int)
abbrev qq:Type:=Bys×Int×ah×Int×Int×Int
abbrev ry:Type:=qq×Int×Int×Int×Int
abbrev cZ:Ty:=(.st (.pair .bool (.slice (.int .u32))))
abbrev bM:Type:=Bool×(List Int)
def fP (a0:Bys):Option (Bool×Unit):=
 bif decide (((a0.length:Int))<1) then
  some (false,())
 else
  bif decide (((a0.length:Int))>40) then
   some (false,())
  else
   (yl a0 0).bind fun c1=>
   bif decide ((c1.toNat:Int)<97) then
    some (false,())
   else
    (yl a0 0).bind fun c2=>
    bif decide ((c2.toNat:Int)>122) then
     some (false,())
    else
     (p9 a0 [97,98,99,100,101,102,103,104,105,106,107,108,109,110,111,112,113,114,115,116,117,118,119,120,121,122,48,49,50,51,52,53,54,55,56,57,45]).bind fun r3=>
     some (r3.1==[],())
def eN (a0:Int) (a1:Int) (a2:Int):Option (Bool×Unit):=
 bif decide (a0<a1) then
  some (true,())
 else
  some (decide (a0>a2),())
def ov (a0:Int):Option (Bool×Unit):=
 (eN a0 1 3652059).bind fun r1=>
 some (!r1.1,())
def gY (a0:ah):Option (Int×Unit):=
 (eN a0.1 (-1000000000000000) 1000000000000000).bind fun r1=>
 bif r1.1 then
  some (1,())
 else
  (eN a0.2 0 9).bind fun r2=>
  bif r2.1 then
   some (1,())
  else
   some (0,())
abbrev vo:Type:=Int×Int×Int×Unit
abbrev vn:Type:=((Int×Unit) ⊕ (Int×Unit))
def vm (x1:vo) (again:vo→Option vn):Option vn:=
 bif decide (x1.2.2.1<x1.2.1) then
  again (w64 (x1.1*10),x1.2.1,w64 (x1.2.2.1+1),())
 else
  some (.inr (x1.1,()))
def JU (a0:Int):Option (Int×Unit):=
 aL (
  iter (X:=vo) (β:=vn) (Int.natAbs (1:Int)+(a0.natAbs+(Int.natAbs (0:Int)+2))) (1,a0,0,()) (vm)) fun v2=>
 some (v2.1,())
abbrev oU:Type:=(List Bys)×Bys×Int×Int×Unit
abbrev oT:Type:=((Int×Unit) ⊕ Unit)
def CX (x1:oU) (again:oU→Option oT):Option oT:=
 match x1 with
 | (A,B,C,D,_)=>
 bif decide (D<C) then
  (idx A D).bind fun y2=>
  bif B==y2 then
   some (.inl (D,()))
  else
   again (A,B,C,w64 (D+1),())
 else
  some (.inr ())
def xU (a0:List Bys) (a1:Bys):Option (Int×Unit):=
 aL (
  iter (X:=oU) (β:=oT) (a0.length+(a1.length+(Int.natAbs ((a0.length:Int))+(Int.natAbs (0:Int)+2)))) (a0,a1,(a0.length:Int),0,()) (CX)) fun _=>
 some ((-1),())
abbrev nA:Type:=(List Int)×Unit
abbrev vW:Type:=(((List Int)×Unit) ⊕ ((List Int)×Unit))
def vU (x1:nA) (again:nA→Option vW):Option vW:=
 bif decide (((x1.1.length:Int))>0) then
  (idx x1.1 (w64 (((x1.1.length:Int)) - 1))).bind fun y2=>
  bif y2==0 then
   chk (decide (0≤(0:Int))&&decide ((0:Int)≤(w64 (((x1.1.length:Int)) - 1)))&&decide ((w64 (((x1.1.length:Int)) - 1))≤(x1.1.length:Int))) <|
   again (List.drop 0 (List.take (Int.toNat (w64 (((x1.1.length:Int)) - 1))) x1.1),())
  else
   some (.inr (x1.1,()))
 else
  some (.inr (x1.1,()))
def nX (a0:List Int):Option ((List Int)×Unit):=
 aL (
  iter (X:=nA) (β:=vW) (a0.length+2) (a0,()) (vU)) fun v3=>
 some (v3.1,())
def iK (a0:Bool) (a1:List Int):Option (bM×Unit):=
 (nX a1).bind fun r1=>
 bif a0 then
  some ((decide (((r1.1.length:Int))>0),r1.1),())
 else
  some ((false,r1.1),())
def tN (a0:Int):Option (bM×Unit):=
 aL (γ:=(Int×Int×Bool×(List Int)×Unit)) (
  bif decide (a0<0) then
   some (.inr (a0,bH (0 - (bH a0)),false,[],()))
  else
   some (.inr (a0,bH a0,false,[],()))) fun v1=>
 (iK (decide (v1.1<0)) [(l8 v1.2.1),(l8 (Int.fdiv v1.2.1 (2 ^ 32)))]).bind fun r2=>
 some (r2.1,())
abbrev tQ:Type:=(List Int)×(List Int)×Int×(List Int)×Int×Int×Unit
abbrev tP:Type:=(((List Int)×Unit) ⊕ ((List Int)×Int×Unit))
def tO (x1:tQ) (again:tQ→Option tP):Option tP:=
 match x1 with
 | (A,B,C,D,E,F,_)=>
 bif decide (F<E) then
  (idx D F).bind fun y2=>
  aL (γ:=((List Int)×(List Int)×Int×(List Int)×Int×Int×Unit)) (
   bif decide (F<((A.length:Int))) then
    (idx A F).bind fun y3=>
    let n4:Int:=bH ((bH (C+(bH y2)))+(bH y3))
    some (.inr (A,B,n4,D,E,F,()))
   else
    some (.inr (A,B,bH (C+(bH y2)),D,E,F,()))) fun (G,H,I,J,K,L,_)=>
  chk (decide (((H.length)+1)*4≤140737488355328)&&decide ((H.length)+1≤maxLen)) <|
  again (G,H++[(l8 I)],Int.fdiv I (2 ^ 32),J,K,w64 (L+1),())
 else
  some (.inr (B,C,()))
def Co (a0:List Int) (a1:List Int):Option ((List Int)×Unit):=
 aL (γ:=((List Int)×(List Int)×Unit)) (
  bif decide (((a0.length:Int))<((a1.length:Int))) then
   some (.inr (a1,a0,()))
  else
   some (.inr (a0,a1,()))) fun (A,B,_)=>
 chk (decide (0≤(0:Int))&&decide ((0:Int)≤(w64 (((A.length:Int))+1)))&&decide ((4:Int)*(w64 (((A.length:Int))+1))≤281474976710656)&&decide ((w64 (((A.length:Int))+1))≤9223372036854775807)) <|
 aL (
  iter (X:=tQ) (β:=tP) (B.length+(List.length ([]:List Int)+(Int.natAbs (0:Int)+(A.length+(Int.natAbs ((A.length:Int))+(Int.natAbs (0:Int)+2)))))) (B,[],0,A,(A.length:Int),0,()) (tO)) fun (C,D,_)=>
 chk (decide (((C.length)+1)*4≤140737488355328)&&decide ((C.length)+1≤maxLen)) <|
 some (C++[(l8 D)],())
abbrev qN:Type:=(List Int)×(List Int)×Int×Unit
abbrev qM:Type:=((Int×Unit) ⊕ Unit)
def ny (x1:qN) (again:qN→Option qM):Option qM:=
 match x1 with
 | (A,B,C,_)=>
 bif decide (C≥0) then
  (idx A C).bind fun y2=>
  (idx B C).bind fun y3=>
  bif y2 != y3 then
   (idx A C).bind fun y4=>
   (idx B C).bind fun y5=>
   bif decide (y4<y5) then
    some (.inl ((-1),()))
   else
    some (.inl (1,()))
  else
   again (A,B,w64 (C - 1),())
 else
  some (.inr ())
def ru (a0:List Int) (a1:List Int):Option (Int×Unit):=
 bif ((a0.length:Int)) != ((a1.length:Int)) then
  some (w64 (((a0.length:Int)) - ((a1.length:Int))),())
 else
  aL (
   iter (X:=qN) (β:=qM) (a0.length+(a1.length+(Int.natAbs (w64 (((a0.length:Int)) - 1))+2))) (a0,a1,w64 (((a0.length:Int)) - 1),()) (ny)) fun _=>
  some (0,())
abbrev vF:Type:=(List Int)×(List Int)×Int×(List Int)×Int×Int×Unit
abbrev vE:Type:=(((List Int)×Unit) ⊕ ((List Int)×Unit))
def vD (x1:vF) (again:vF→Option vE):Option vE:=
 match x1 with
 | (A,B,C,D,E,F,_)=>
 bif decide (F<E) then
  (idx D F).bind fun y2=>
  aL (γ:=((List Int)×(List Int)×Int×(List Int)×Int×Int×Unit)) (
   bif decide (F<((A.length:Int))) then
    (idx A F).bind fun y3=>
    let n4:Int:=bH ((bH ((bH y2) - C)) - (bH y3))
    some (.inr (A,B,n4,D,E,F,()))
   else
    some (.inr (A,B,bH ((bH y2) - C),D,E,F,()))) fun (G,H,I,J,K,L,_)=>
  chk (decide (((H.length)+1)*4≤140737488355328)&&decide ((H.length)+1≤maxLen)) <|
  again (G,H++[(l8 I)],bH (((BitVec.ofInt (IntKind.bits .u64) (Int.fdiv I (2 ^ 32)) &&& BitVec.ofInt (IntKind.bits .u64) 1).toNat:Int)),J,K,w64 (L+1),())
 else
  some (.inr (B,()))
def uo (a0:List Int) (a1:List Int):Option ((List Int)×Unit):=
 chk (decide (0≤(0:Int))&&decide ((0:Int)≤((a0.length:Int)))&&decide ((4:Int)*((a0.length:Int))≤281474976710656)&&decide (((a0.length:Int))≤9223372036854775807)) <|
 aL (
  iter (X:=vF) (β:=vE) (a1.length+(List.length ([]:List Int)+(Int.natAbs (0:Int)+(a0.length+(Int.natAbs ((a0.length:Int))+(Int.natAbs (0:Int)+2)))))) (a1,[],0,a0,(a0.length:Int),0,()) (vD)) fun v6=>
 (nX v6.1).bind fun r7=>
 some (r7.1,())
abbrev sw:Type:=(List Int)×Int×Bool×(List Int)×Bool×(List Int)×Bool×(List Int)×Bool×(List Int)×(List Int)×Unit
abbrev su:Type:=((bM×bM×Unit) ⊕ ((List Int)×Bool×(List Int)×Bool×(List Int)×(List Int)×Unit))
def sr (x1:sw) (again:sw→Option su):Option su:=
 match x1 with
 | (A,B,C,D,E,F,G,H,I,J,K,_)=>
 bif decide (B≥0) then
  (Co A A).bind fun r2=>
  chk (decide (0≤(0:Int))&&decide ((0:Int)<(r2.1.length:Int))) <|
  (r2.1[0]?).bind fun y3=>
  (idx D (w64 (Int.tdiv B 32))).bind fun y4=>
  chk (decide (0≤(Int.tmod B 32))) <|
  let n5:Int:=l8 (((BitVec.ofInt (IntKind.bits .u32) (Int.fdiv y4 (2 ^ (min (Int.toNat (Int.tmod B 32)) (IntKind.bits .u32)))) &&& BitVec.ofInt (IntKind.bits .u32) 1).toNat:Int))
  chk (decide (0≤(0:Int))&&decide ((0:Int)<(r2.1.length:Int))) <|
  (r2.1[0]?).bind fun _=>
  (nX (List.set r2.1 0 (l8 (((BitVec.ofInt (IntKind.bits .u32) y3 ||| BitVec.ofInt (IntKind.bits .u32) n5).toNat:Int))))).bind fun r6=>
  (ru r6.1 F).bind fun r7=>
  bif decide (r7.1≥0) then
   (uo r6.1 F).bind fun r8=>
   chk (decide (0≤(w64 (Int.tdiv B 32)))&&decide ((w64 (Int.tdiv B 32))<(K.length:Int))) <|
   (K[(w64 (Int.tdiv B 32)).toNat]?).bind fun y9=>
   chk (decide (0≤(Int.tmod B 32))) <|
   let n10:Int:=l8 (((BitVec.ofInt (IntKind.bits .u32) y9 ||| BitVec.ofInt (IntKind.bits .u32) (l8 (1*2 ^ (min (Int.toNat (Int.tmod B 32)) (IntKind.bits .u32))))).toNat:Int))
   chk (decide (0≤(w64 (Int.tdiv B 32)))&&decide ((w64 (Int.tdiv B 32))<(K.length:Int))) <|
   (K[(w64 (Int.tdiv B 32)).toNat]?).bind fun _=>
   again (r8.1,w64 (B - 1),C,D,E,F,G,H,I,J,List.set K (w64 (Int.tdiv B 32)).toNat n10,())
  else
   again (r6.1,w64 (B - 1),C,D,E,F,G,H,I,J,K,())
 else
  some (.inr (A,G,H,I,J,K,()))
def tH (a0:bM) (a1:bM):Option (bM×bM×Unit):=
 chk (decide (0≤((a0.2.length:Int)))&&decide (((a0.2.length:Int))≤((a0.2.length:Int)))&&decide ((4:Int)*((a0.2.length:Int))≤281474976710656)&&decide (((a0.2.length:Int))≤9223372036854775807)) <|
 let n1:Int:=w64 ((w64 (((a0.2.length:Int))*32)) - 1)
 aL (
  iter (X:=sw) (β:=su) (List.length ([]:List Int)+(n1.natAbs+(a0.2.length+(a1.2.length+(List.length ([]:List Int)+(List.length ([]:List Int)+(List.length ((List.replicate (Int.toNat ((a0.2.length:Int))) 0):List Int)+2))))))) ([],n1,a0.1,a0.2,a1.1,a1.2,false,[],false,[],List.replicate (Int.toNat ((a0.2.length:Int))) 0,()) (sr)) fun v14=>
 (iK false v14.2.2.2.2.2.1).bind fun r15=>
 (iK false v14.1).bind fun r16=>
 some (r15.1,r16.1,())
def kr (a0:bM):Option (Int×Unit):=
 bif a0.1 then
  some ((-1),())
 else
  bif ((a0.2.length:Int))==0 then
   some (0,())
  else
   some (1,())
def oG (a0:bM):Option (bM×Unit):=
 (iK (!a0.1) a0.2).bind fun r1=>
 some (r1.1,())
abbrev qL:Type:=Int×Int×(List Int)×Int×Int×Bool×(List Int)×Unit
abbrev qK:Type:=((Int×Bool×Unit) ⊕ (Int×Int×Bool×(List Int)×Unit))
def qJ (x1:qL) (again:qL→Option qK):Option qK:=
 match x1 with
 | (A,B,C,D,E,F,G,_)=>
 bif decide (E<D) then
  (idx C E).bind fun y2=>
  chk (decide (0≤(w64 (32*E)))) <|
  let n3:Int:=bH ((bH y2)*2 ^ (min (Int.toNat (w64 (32*E))) (IntKind.bits .u64)))
  again (A,bH (((BitVec.ofInt (IntKind.bits .u64) B ||| BitVec.ofInt (IntKind.bits .u64) n3).toNat:Int)),C,D,w64 (E+1),F,G,())
 else
  some (.inr (A,B,F,G,()))
def vC (a0:bM) (a1:Int):Option (Int×Bool×Unit):=
 bif decide (((a0.2.length:Int))>2) then
  some (0,false,())
 else
  aL (
   iter (X:=qL) (β:=qK) (a1.natAbs+(Int.natAbs (0:Int)+(a0.2.length+(Int.natAbs ((a0.2.length:Int))+(Int.natAbs (0:Int)+(a0.2.length+2)))))) (a1,0,a0.2,(a0.2.length:Int),0,a0.1,a0.2,()) (qJ)) fun (A,B,C,_,_)=>
  bif decide (B>(bH A)) then
   some (0,false,())
  else
   bif C then
    some (w64 (0 - (w64 B)),true,())
   else
    some (w64 B,true,())
def oI (a0:bM) (a1:Int):Option (ah×Int×Unit):=
 (vC a0 1000000000000000).bind fun r1=>
 bif !r1.2.1 then
  some ((0,0),1,())
 else
  some ((r1.1,a1),0,())
abbrev qv:Type:=Int×Bool×(List Int)×Int×Int×Bool×(List Int)×Unit
abbrev qu:Type:=((ah×Int×Unit) ⊕ (Int×Bool×(List Int)×Int×Int×Unit))
def qs (x1:qv) (again:qv→Option qu):Option qu:=
 match x1 with
 | (A,B,C,D,E,F,G,_)=>
 bif decide (A>0) then
  (tH (B,C) (F,G)).bind fun r2=>
  (kr r2.2.1).bind fun r3=>
  bif r3.1 != 0 then
   some (.inr (A,B,C,D,E,()))
  else
   (kr (B,C)).bind fun r4=>
   bif decide (r4.1<0) then
    (oG r2.1).bind fun r5=>
    again (w64 (A - 1),r5.1.1,r5.1.2,D,E,F,G,())
   else
    again (w64 (A - 1),r2.1.1,r2.1.2,D,E,F,G,())
 else
  some (.inr (A,B,C,D,E,()))
def vl (a0:bM) (a1:Int):Option (ah×Int×Unit):=
 (tN 10).bind fun r1=>
 aL (
  iter (X:=qv) (β:=qu) (a1.natAbs+(a0.2.length+(Int.natAbs (0:Int)+(Int.natAbs (0:Int)+(r1.1.2.length+2))))) (a1,a0.1,a0.2,0,0,r1.1.1,r1.1.2,()) (qs)) fun v7=>
 (oI (v7.2.1,v7.2.2.1) v7.1).bind fun r8=>
 some (r8.1,r8.2.1,())
end Go.Md
namespace Go.Md
open Go.Dn
end Go.Md
