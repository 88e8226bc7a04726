/-
  The plain models of the functions that the law reaches, a part. No condition.
-/
import Derived.Test.YtakjkcibbeeekaaGreatDoorYe
import Derived.Test.YtakjkcibbeeekaaGreatDoorYd
import Derived.Lib.SlTrimSet
import Derived.Lib.Bytealg
import Derived.Lib.Repeat
import Derived.Lib.ItoaNum
namespace Go.Md
open Go.Dn
abbrev Bys:Type:=List UInt8
def vC (s c:Bys):Option (Bys×Unit):=
 bif decide (s.length<=9223372036854775807)&&(decide (c.length<4294967281)&&c.all fun b=>decide (b.toNat<128)) then some (Lib.trimS s c,()) else none
abbrev aC:Ty:=(.st (.pair tI tI))
abbrev ah:Type:=Int×Int
abbrev aav:Type:=Bys×Int×ah×Int×Int×Int
abbrev IZ:Type:=aav×Int×Int×Int×Int
abbrev aA:Ty:=(.st (.pair .bool (.slice (.int .u32))))
abbrev au:Type:=Bool×(List Int)
def bZ (a0:Bys):Option (Bool×Unit):=
 bif decide (((a0.length:Int))<1) then
  some (false,())
 else
  bif decide (((a0.length:Int))>40) then
   some (false,())
  else
   (BV a0 0).bind fun c1=>
   bif decide ((c1.toNat:Int)<97) then
    some (false,())
   else
    (BV a0 0).bind fun c2=>
    bif decide ((c2.toNat:Int)>122) then
     some (false,())
    else
     (vC a0 [97,98,99,100,101,102,103,104,105,106,107,108,109,110,111,112,113,114,115,116,117,118,119,120,121,122,48,49,50,51,52,53,54,55,56,57,45]).bind fun r3=>
     some (r3.1==[],())
def b8 (a0:Int) (a1:Int) (a2:Int):Option (Bool×Unit):=
 bif decide (a0<a1) then
  some (true,())
 else
  some (decide (a0>a2),())
def oc (a0:Int):Option (Bool×Unit):=
 (b8 a0 1 3652059).bind fun r1=>
 some (!r1.1,())
def cc (a0:ah):Option (Int×Unit):=
 (b8 a0.1 (-1000000000000000) 1000000000000000).bind fun r1=>
 bif r1.1 then
  some (1,())
 else
  (b8 a0.2 0 9).bind fun r2=>
  bif r2.1 then
   some (1,())
  else
   some (0,())
abbrev Bt:Type:=Int×Int×Int×Unit
abbrev Br:Type:=((Int×Unit) ⊕ (Int×Unit))
def Bq (x1:Bt) (again:Bt->Option Br):Option Br:=
 bif decide (x1.2.2.1<x1.2.1) then
  again (w64 (x1.1*10),x1.2.1,w64 (x1.2.2.1+1),())
 else
  some (.inr (x1.1,()))
def Gi (a0:Int):Option (Int×Unit):=
 aG (
  iter (X:=Bt) (β:=Br) (Int.natAbs (1:Int)+(a0.natAbs+(Int.natAbs (0:Int)+2))) (1,a0,0,()) (Bq)) fun v2=>
 some (v2.1,())
def gJ (a0:ah) (a1:Int):Option (Bool×Unit):=
 (Gi a0.2).bind fun r1=>
 (b8 a0.1 (w64 (0 - (w64 (a1*r1.1)))) (w64 (a1*r1.1))).bind fun r2=>
 some (!r2.1,())
abbrev rf:Type:=(List Int)×Unit
abbrev B9:Type:=(((List Int)×Unit) ⊕ ((List Int)×Unit))
def B7 (x1:rf) (again:rf->Option B9):Option B9:=
 bif decide (((x1.1.length:Int))>0) then
  (idx x1.1 (w64 (((x1.1.length:Int)) - 1))).bind fun y2=>
  bif y2==0 then
   chk (decide (0<=(0:Int))&&decide ((0:Int)<=(w64 (((x1.1.length:Int)) - 1)))&&decide ((w64 (((x1.1.length:Int)) - 1))<=(x1.1.length:Int))) <|
   again (List.drop 0 (List.take (Int.toNat (w64 (((x1.1.length:Int)) - 1))) x1.1),())
  else
   some (.inr (x1.1,()))
 else
  some (.inr (x1.1,()))
def sD (a0:List Int):Option ((List Int)×Unit):=
 aG (
  iter (X:=rf) (β:=B9) (a0.length+2) (a0,()) (B7)) fun v3=>
 some (v3.1,())
def kX (a0:Bool) (a1:List Int):Option (au×Unit):=
 (sD a1).bind fun r1=>
 bif a0 then
  some ((decide (((r1.1.length:Int))>0),r1.1),())
 else
  some ((false,r1.1),())
def gX (a0:Int):Option (au×Unit):=
 aG (γ:=(Int×Int×Bool×(List Int)×Unit)) (
  bif decide (a0<0) then
   some (.inr (a0,cg (0 - (cg a0)),false,[],()))
  else
   some (.inr (a0,cg a0,false,[],()))) fun v1=>
 (kX (decide (v1.1<0)) [(pz v1.2.1),(pz (Int.fdiv v1.2.1 (2 ^ 32)))]).bind fun r2=>
 some (r2.1,())
abbrev zX:Type:=(List Int)×(List Int)×Int×(List Int)×Int×Int×Unit
abbrev zW:Type:=(((List Int)×Unit) ⊕ ((List Int)×Int×Unit))
def zV (x1:zX) (again:zX->Option zW):Option zW:=
 match x1 with
 | (A,B,C,D,E,F,_)=>
 bif decide (F<E) then
  (idx D F).bind fun y2=>
  aG (γ:=((List Int)×(List Int)×Int×(List Int)×Int×Int×Unit)) (
   bif decide (F<((A.length:Int))) then
    (idx A F).bind fun y3=>
    let n4:Int:=cg ((cg (C+(cg y2)))+(cg y3))
    some (.inr (A,B,n4,D,E,F,()))
   else
    some (.inr (A,B,cg (C+(cg y2)),D,E,F,()))) fun (G,H,I,J,K,L,_)=>
  chk (decide (((H.length)+1)*4<=140737488355328)&&decide ((H.length)+1<=maxLen)) <|
  again (G,H++[(pz I)],Int.fdiv I (2 ^ 32),J,K,w64 (L+1),())
 else
  some (.inr (B,C,()))
def FA (a0:List Int) (a1:List Int):Option ((List Int)×Unit):=
 aG (γ:=((List Int)×(List Int)×Unit)) (
  bif decide (((a0.length:Int))<((a1.length:Int))) then
   some (.inr (a1,a0,()))
  else
   some (.inr (a0,a1,()))) fun (A,B,_)=>
 chk (decide (0<=(0:Int))&&decide ((0:Int)<=(w64 (((A.length:Int))+1)))&&decide ((4:Int)*(w64 (((A.length:Int))+1))<=281474976710656)&&decide ((w64 (((A.length:Int))+1))<=9223372036854775807)) <|
 aG (
  iter (X:=zX) (β:=zW) (B.length+(List.length ([]:List Int)+(Int.natAbs (0:Int)+(A.length+(Int.natAbs ((A.length:Int))+(Int.natAbs (0:Int)+2)))))) (B,[],0,A,(A.length:Int),0,()) (zV)) fun (C,D,_)=>
 chk (decide (((C.length)+1)*4<=140737488355328)&&decide ((C.length)+1<=maxLen)) <|
 some (C++[(pz D)],())
abbrev w5:Type:=(List Int)×(List Int)×Int×Unit
abbrev wZ:Type:=((Int×Unit) ⊕ Unit)
def q9 (x1:w5) (again:w5->Option wZ):Option wZ:=
 match x1 with
 | (A,B,C,_)=>
 bif decide (C>=0) then
  (idx A C).bind fun y2=>
  (idx B C).bind fun y3=>
  bif y2 != y3 then
   (idx A C).bind fun y4=>
   (idx B C).bind fun y5=>
   bif decide (y4<y5) then
    some (.inl ((-1),()))
   else
    some (.inl (1,()))
  else
   again (A,B,w64 (C - 1),())
 else
  some (.inr ())
def xD (a0:List Int) (a1:List Int):Option (Int×Unit):=
 bif ((a0.length:Int)) != ((a1.length:Int)) then
  some (w64 (((a0.length:Int)) - ((a1.length:Int))),())
 else
  aG (
   iter (X:=w5) (β:=wZ) (a0.length+(a1.length+(Int.natAbs (w64 (((a0.length:Int)) - 1))+2))) (a0,a1,w64 (((a0.length:Int)) - 1),()) (q9)) fun _=>
  some (0,())
abbrev BG:Type:=(List Int)×(List Int)×Int×(List Int)×Int×Int×Unit
abbrev BF:Type:=(((List Int)×Unit) ⊕ ((List Int)×Unit))
def BE (x1:BG) (again:BG->Option BF):Option BF:=
 match x1 with
 | (A,B,C,D,E,F,_)=>
 bif decide (F<E) then
  (idx D F).bind fun y2=>
  aG (γ:=((List Int)×(List Int)×Int×(List Int)×Int×Int×Unit)) (
   bif decide (F<((A.length:Int))) then
    (idx A F).bind fun y3=>
    let n4:Int:=cg ((cg ((cg y2) - C)) - (cg y3))
    some (.inr (A,B,n4,D,E,F,()))
   else
    some (.inr (A,B,cg ((cg y2) - C),D,E,F,()))) fun (G,H,I,J,K,L,_)=>
  chk (decide (((H.length)+1)*4<=140737488355328)&&decide ((H.length)+1<=maxLen)) <|
  again (G,H++[(pz I)],cg (((BitVec.ofInt (IntKind.bits .u64) (Int.fdiv I (2 ^ 32)) &&& BitVec.ofInt (IntKind.bits .u64) 1).toNat:Int)),J,K,w64 (L+1),())
 else
  some (.inr (B,()))
def Au (a0:List Int) (a1:List Int):Option ((List Int)×Unit):=
 chk (decide (0<=(0:Int))&&decide ((0:Int)<=((a0.length:Int)))&&decide ((4:Int)*((a0.length:Int))<=281474976710656)&&decide (((a0.length:Int))<=9223372036854775807)) <|
 aG (
  iter (X:=BG) (β:=BF) (a1.length+(List.length ([]:List Int)+(Int.natAbs (0:Int)+(a0.length+(Int.natAbs ((a0.length:Int))+(Int.natAbs (0:Int)+2)))))) (a1,[],0,a0,(a0.length:Int),0,()) (BE)) fun v6=>
 (sD v6.1).bind fun r7=>
 some (r7.1,())
abbrev yO:Type:=(List Int)×Int×Bool×(List Int)×Bool×(List Int)×Bool×(List Int)×Bool×(List Int)×(List Int)×Unit
abbrev yN:Type:=((au×au×Unit) ⊕ ((List Int)×Bool×(List Int)×Bool×(List Int)×(List Int)×Unit))
def yM (x1:yO) (again:yO->Option yN):Option yN:=
 match x1 with
 | (A,B,C,D,E,F,G,H,I,J,K,_)=>
 bif decide (B>=0) then
  (FA A A).bind fun r2=>
  chk (decide (0<=(0:Int))&&decide ((0:Int)<(r2.1.length:Int))) <|
  (r2.1[0]?).bind fun y3=>
  (idx D (w64 (Int.tdiv B 32))).bind fun y4=>
  chk (decide (0<=(Int.tmod B 32))) <|
  let n5:Int:=pz (((BitVec.ofInt (IntKind.bits .u32) (Int.fdiv y4 (2 ^ (min (Int.toNat (Int.tmod B 32)) (IntKind.bits .u32)))) &&& BitVec.ofInt (IntKind.bits .u32) 1).toNat:Int))
  chk (decide (0<=(0:Int))&&decide ((0:Int)<(r2.1.length:Int))) <|
  (r2.1[0]?).bind fun _=>
  (sD (List.set r2.1 0 (pz (((BitVec.ofInt (IntKind.bits .u32) y3 ||| BitVec.ofInt (IntKind.bits .u32) n5).toNat:Int))))).bind fun r6=>
  (xD r6.1 F).bind fun r7=>
  bif decide (r7.1>=0) then
   (Au r6.1 F).bind fun r8=>
   chk (decide (0<=(w64 (Int.tdiv B 32)))&&decide ((w64 (Int.tdiv B 32))<(K.length:Int))) <|
   (K[(w64 (Int.tdiv B 32)).toNat]?).bind fun y9=>
   chk (decide (0<=(Int.tmod B 32))) <|
   let n10:Int:=pz (((BitVec.ofInt (IntKind.bits .u32) y9 ||| BitVec.ofInt (IntKind.bits .u32) (pz (1*2 ^ (min (Int.toNat (Int.tmod B 32)) (IntKind.bits .u32))))).toNat:Int))
   chk (decide (0<=(w64 (Int.tdiv B 32)))&&decide ((w64 (Int.tdiv B 32))<(K.length:Int))) <|
   (K[(w64 (Int.tdiv B 32)).toNat]?).bind fun _=>
   again (r8.1,w64 (B - 1),C,D,E,F,G,H,I,J,List.set K (w64 (Int.tdiv B 32)).toNat n10,())
  else
   again (r6.1,w64 (B - 1),C,D,E,F,G,H,I,J,K,())
 else
  some (.inr (A,G,H,I,J,K,()))
def zS (a0:au) (a1:au):Option (au×au×Unit):=
 chk (decide (0<=((a0.2.length:Int)))&&decide (((a0.2.length:Int))<=((a0.2.length:Int)))&&decide ((4:Int)*((a0.2.length:Int))<=281474976710656)&&decide (((a0.2.length:Int))<=9223372036854775807)) <|
 let n1:Int:=w64 ((w64 (((a0.2.length:Int))*32)) - 1)
 aG (
  iter (X:=yO) (β:=yN) (List.length ([]:List Int)+(n1.natAbs+(a0.2.length+(a1.2.length+(List.length ([]:List Int)+(List.length ([]:List Int)+(List.length ((List.replicate (Int.toNat ((a0.2.length:Int))) 0):List Int)+2))))))) ([],n1,a0.1,a0.2,a1.1,a1.2,false,[],false,[],List.replicate (Int.toNat ((a0.2.length:Int))) 0,()) (yM)) fun v14=>
 (kX false v14.2.2.2.2.2.1).bind fun r15=>
 (kX false v14.1).bind fun r16=>
 some (r15.1,r16.1,())
def fP (a0:au):Option (Int×Unit):=
 bif a0.1 then
  some ((-1),())
 else
  bif ((a0.2.length:Int))==0 then
   some (0,())
  else
   some (1,())
def o8 (a0:au):Option (au×Unit):=
 (kX (!a0.1) a0.2).bind fun r1=>
 some (r1.1,())
abbrev wY:Type:=Int×Int×(List Int)×Int×Int×Bool×(List Int)×Unit
abbrev wX:Type:=((Int×Bool×Unit) ⊕ (Int×Int×Bool×(List Int)×Unit))
def wW (x1:wY) (again:wY->Option wX):Option wX:=
 match x1 with
 | (A,B,C,D,E,F,G,_)=>
 bif decide (E<D) then
  (idx C E).bind fun y2=>
  chk (decide (0<=(w64 (32*E)))) <|
  let n3:Int:=cg ((cg y2)*2 ^ (min (Int.toNat (w64 (32*E))) (IntKind.bits .u64)))
  again (A,cg (((BitVec.ofInt (IntKind.bits .u64) B ||| BitVec.ofInt (IntKind.bits .u64) n3).toNat:Int)),C,D,w64 (E+1),F,G,())
 else
  some (.inr (A,B,F,G,()))
def xC (a0:au) (a1:Int):Option (Int×Bool×Unit):=
 bif decide (((a0.2.length:Int))>2) then
  some (0,false,())
 else
  aG (
   iter (X:=wY) (β:=wX) (a1.natAbs+(Int.natAbs (0:Int)+(a0.2.length+(Int.natAbs ((a0.2.length:Int))+(Int.natAbs (0:Int)+(a0.2.length+2)))))) (a1,0,a0.2,(a0.2.length:Int),0,a0.1,a0.2,()) (wW)) fun (A,B,C,_,_)=>
  bif decide (B>(cg A)) then
   some (0,false,())
  else
   bif C then
    some (w64 (0 - (w64 B)),true,())
   else
    some (w64 B,true,())
def ug (a0:au) (a1:Int):Option (ah×Int×Unit):=
 (xC a0 1000000000000000).bind fun r1=>
 bif !r1.2.1 then
  some ((0,0),1,())
 else
  some ((r1.1,a1),0,())
abbrev vZ:Type:=Int×Bool×(List Int)×Int×Int×Bool×(List Int)×Unit
abbrev vY:Type:=((ah×Int×Unit) ⊕ (Int×Bool×(List Int)×Int×Int×Unit))
def vW (x1:vZ) (again:vZ->Option vY):Option vY:=
 match x1 with
 | (A,B,C,D,E,F,G,_)=>
 bif decide (A>0) then
  (zS (B,C) (F,G)).bind fun r2=>
  (fP r2.2.1).bind fun r3=>
  bif r3.1 != 0 then
   some (.inr (A,B,C,D,E,()))
  else
   (fP (B,C)).bind fun r4=>
   bif decide (r4.1<0) then
    (o8 r2.1).bind fun r5=>
    again (w64 (A - 1),r5.1.1,r5.1.2,D,E,F,G,())
   else
    again (w64 (A - 1),r2.1.1,r2.1.2,D,E,F,G,())
 else
  some (.inr (A,B,C,D,E,()))
def mY (a0:au) (a1:Int):Option (ah×Int×Unit):=
 (gX 10).bind fun r1=>
 aG (
  iter (X:=vZ) (β:=vY) (a1.natAbs+(a0.2.length+(Int.natAbs (0:Int)+(Int.natAbs (0:Int)+(r1.1.2.length+2))))) (a1,a0.1,a0.2,0,0,r1.1.1,r1.1.2,()) (vW)) fun v7=>
 (ug (v7.2.1,v7.2.2.1) v7.1).bind fun r8=>
 some (r8.1,r8.2.1,())
end Go.Md
namespace Go.Md
open Go.Dn
end Go.Md
namespace Go.Md
open Go.Dn
def strings_Compare (a b:Bys):Option (Int×Unit):=some (Lib.compareBytes a b,())
abbrev gW:Ty:=(.st (.pair .str aC))
abbrev aZ:Type:=Bys×ah
abbrev qD:Ty:=(.st (.pair .bool (.pair aC .str)))
abbrev bY:Type:=Bool×ah×Bys
abbrev jM:Ty:=(.st (.pair tI (.pair tI (.pair .str (.pair aC (.pair .str (.pair aC (.pair tI (.pair (.slice qD) .str)))))))))
abbrev aI:Type:=Int×Int×Bys×ah×Bys×ah×Int×(List bY)×Bys
abbrev bB:Ty:=(.st (.pair .str (.pair .str (.pair tI (.pair tI (.pair tI (.pair .bool (.pair (.slice gW) (.pair (.slice jM) (.slice qD))))))))))
abbrev an:Type:=Bys×Bys×Int×Int×Int×Bool×(List aZ)×(List aI)×(List bY)
def GN (a0:Int):Option (Bool×Unit):=
 (b8 a0 1 6).bind fun r1=>
 some (!r1.1,())
abbrev sJ:Type:=(List aZ)×(List aZ)×Int×Int×Unit
abbrev yS:Type:=((Int×Unit) ⊕ Unit)
def sI (x1:sJ) (again:sJ->Option yS):Option yS:=
 match x1 with
 | (A,B,C,D,_)=>
 bif decide (D<C) then
  (idx B D).bind fun y2=>
  (bZ y2.1).bind fun r3=>
  bif !r3.1 then
   some (.inl (5,()))
  else
   bif decide (D>0) then
    (idx A (w64 (D - 1))).bind fun y4=>
    bif Op.bytesLess y2.1 y4.1||y2.1==y4.1 then
     some (.inl (8,()))
    else
     (cc y2.2).bind fun r5=>
     bif r5.1 != 0 then
      some (.inl (r5.1,()))
     else
      bif decide (y2.2.1<0) then
       some (.inl (1,()))
      else
       (gJ y2.2 100).bind fun r6=>
       bif !r6.1 then
        some (.inl (1,()))
       else
        again (A,B,C,w64 (D+1),())
   else
    (cc y2.2).bind fun r7=>
    bif r7.1 != 0 then
     some (.inl (r7.1,()))
    else
     bif decide (y2.2.1<0) then
      some (.inl (1,()))
     else
      (gJ y2.2 100).bind fun r8=>
      bif !r8.1 then
       some (.inl (1,()))
      else
       again (A,B,C,w64 (D+1),())
 else
  some (.inr ())
def oD (a0:List aZ):Option (Int×Unit):=
 bif ((a0.length:Int))==0 then
  some (9,())
 else
  bif decide (((a0.length:Int))>20) then
   some (2,())
  else
   aG (
    iter (X:=sJ) (β:=yS) (a0.length+(a0.length+(Int.natAbs ((a0.length:Int))+(Int.natAbs (0:Int)+2)))) (a0,a0,(a0.length:Int),0,()) (sI)) fun _=>
   some (0,())
abbrev Ej:Type:=Int×Int×Int×Unit
abbrev Ei:Type:=((Int×Unit) ⊕ (Int×Unit))
def Vc (x1:Ej) (again:Ej->Option Ei):Option Ei:=
 bif decide (x1.2.2.1<x1.2.1) then
  again (w64 (x1.1*10),x1.2.1,w64 (x1.2.2.1+1),())
 else
  some (.inr (x1.1,()))
def EJ (a0:Int):Option (Int×Unit):=
 aG (
  iter (X:=Ej) (β:=Ei) (Int.natAbs (1:Int)+(a0.natAbs+(Int.natAbs (0:Int)+2))) (1,a0,0,()) (Vc)) fun v2=>
 some (v2.1,())
def vl (a0:ah) (a1:Int) (a2:Int):Option (Bool×Unit):=
 bif decide (a0.2<=a1) then
  bif decide (a0.1>=0) then
   (EJ a0.2).bind fun r1=>
   some (decide (a0.1<=(w64 (a2*r1.1))),())
  else
   some (false,())
 else
  some (false,())
def lC (a0:ah):Option (Int×Unit):=
 (cc a0).bind fun r1=>
 bif r1.1 != 0 then
  some (r1.1,())
 else
  (vl a0 4 1000000000).bind fun r2=>
  bif !r2.1 then
   some (1,())
  else
   some (0,())
def FH (a0:aZ) (a1:Bys):Option (Int×Unit):=
 (strings_Compare a0.1 a1).bind fun r1=>
 some (r1.1,())
abbrev cT:Type:=(List aZ)×Bys×Unit×Int×Int×Int×Unit
abbrev gM:Type:=((Int×Bool×Unit) ⊕ ((List aZ)×Bys×Unit×Int×Int×Unit))
def gL (x1:cT) (again:cT->Option gM):Option gM:=
 match x1 with
 | (A,B,C,D,E,F,_)=>
 bif decide (E<F) then
  let n2:Int:=w64 (Int.fdiv (cg (w64 (E+F))) (2 ^ 1))
  (idx A n2).bind fun y3=>
  (FH y3 B).bind fun r4=>
  bif decide (r4.1<0) then
   again (A,B,C,D,w64 (n2+1),F,())
  else
   again (A,B,C,D,E,n2,())
 else
  some (.inr (A,B,C,D,E,()))
def eZ (a0:List aZ) (a1:Bys) (a2:Unit):Option (Int×Bool×Unit):=
 aG (
  iter (X:=cT) (β:=gM) (a0.length+(a1.length+(Int.natAbs ((a0.length:Int))+(Int.natAbs (0:Int)+(Int.natAbs ((a0.length:Int))+2))))) (a0,a1,a2,(a0.length:Int),0,(a0.length:Int),()) (gL)) fun (A,B,_,C,D,_)=>
 bif decide (D<C) then
  (idx A D).bind fun y6=>
  (FH y6 B).bind fun r7=>
  some (D,r7.1==0,())
 else
  some (D,false,())
def EF (a0:List aZ) (a1:Bys):Option (Int×Bool×Unit):=
 (eZ a0 a1 ()).bind fun r1=>
 some (r1.1,r1.2.1,())
def kI (a0:an) (a1:Bys):Option (Bool×Unit):=
 (EF a0.2.2.2.2.2.2.1 a1).bind fun r1=>
 some (r1.2.1,())
abbrev ru:Type:=Bool×(List bY)×Int×Int×Bys×Bys×Int×Int×Int×Bool×(List aZ)×(List aI)×(List bY)×Unit
abbrev xO:Type:=((Int×Unit) ⊕ Unit)
def rq (x1:ru) (again:ru->Option xO):Option xO:=
 match x1 with
 | (A,B,C,D,E,F,G,H,I,J,K,L,M,_)=>
 bif decide (D<C) then
  (idx B D).bind fun y2=>
  (cc y2.2.1).bind fun r3=>
  bif r3.1 != 0 then
   some (.inl (r3.1,()))
  else
   bif y2.2.1.1==0 then
    some (.inl (13,()))
   else
    bif y2.1 then
     (gJ y2.2.1 100).bind fun r4=>
     aG (γ:=(Bool×(List bY)×Int×Int×Bool×Bys×Bys×Int×Int×Int×Bool×(List aZ)×(List aI)×(List bY)×Bool×Int×Int×Bys×Unit)) (
      bif !r4.1 then
       some (.inr (A,B,C,D, !r4.1,E,F,G,H,I,J,K,L,M,y2.1,y2.2.1.1,y2.2.1.2,y2.2.2,()))
      else
       bif !y2.1 then
        (gJ y2.2.1 1000000000).bind fun r5=>
        bif !r5.1 then
         some (.inr (A,B,C,D,true,E,F,G,H,I,J,K,L,M,y2.1,y2.2.1.1,y2.2.1.2,y2.2.2,()))
        else
         some (.inr (A,B,C,D,decide (y2.2.1.2>H),E,F,G,H,I,J,K,L,M,y2.1,y2.2.1.1,y2.2.1.2,y2.2.2,()))
       else
        some (.inr (A,B,C,D,false,E,F,G,H,I,J,K,L,M,y2.1,y2.2.1.1,y2.2.1.2,y2.2.2,()))) fun (N,O,P,Q,R,S,T,U,V,W,X,Y,Z,A0,_,_,_,B0,_)=>
     bif R then
      some (.inl (1,()))
     else
      bif N then
       bif !(B0==[]) then
        some (.inl (3,()))
       else
        bif !N then
         bif !(B0==[]) then
          (kI (S,T,U,V,W,X,Y,Z,A0) B0).bind fun r7=>
          bif !r7.1 then
           some (.inl (5,()))
          else
           again (N,O,P,w64 (Q+1),S,T,U,V,W,X,Y,Z,A0,())
         else
          again (N,O,P,w64 (Q+1),S,T,U,V,W,X,Y,Z,A0,())
        else
         again (N,O,P,w64 (Q+1),S,T,U,V,W,X,Y,Z,A0,())
      else
       bif !N then
        bif !(B0==[]) then
         (kI (S,T,U,V,W,X,Y,Z,A0) B0).bind fun r8=>
         bif !r8.1 then
          some (.inl (5,()))
         else
          again (N,O,P,w64 (Q+1),S,T,U,V,W,X,Y,Z,A0,())
        else
         again (N,O,P,w64 (Q+1),S,T,U,V,W,X,Y,Z,A0,())
       else
        again (N,O,P,w64 (Q+1),S,T,U,V,W,X,Y,Z,A0,())
    else
     aG (γ:=(Bool×(List bY)×Int×Int×Bool×Bys×Bys×Int×Int×Int×Bool×(List aZ)×(List aI)×(List bY)×Bool×Int×Int×Bys×Unit)) (
      bif !y2.1 then
       (gJ y2.2.1 1000000000).bind fun r9=>
       bif !r9.1 then
        some (.inr (A,B,C,D,true,E,F,G,H,I,J,K,L,M,y2.1,y2.2.1.1,y2.2.1.2,y2.2.2,()))
       else
        some (.inr (A,B,C,D,decide (y2.2.1.2>H),E,F,G,H,I,J,K,L,M,y2.1,y2.2.1.1,y2.2.1.2,y2.2.2,()))
      else
       some (.inr (A,B,C,D,false,E,F,G,H,I,J,K,L,M,y2.1,y2.2.1.1,y2.2.1.2,y2.2.2,()))) fun (C0,D0,E0,F0,G0,H0,I0,J0,K0,L0,M0,N0,O0,P0,_,_,_,Q0,_)=>
     bif G0 then
      some (.inl (1,()))
     else
      bif C0 then
       bif !(Q0==[]) then
        some (.inl (3,()))
       else
        bif !C0 then
         bif !(Q0==[]) then
          (kI (H0,I0,J0,K0,L0,M0,N0,O0,P0) Q0).bind fun r11=>
          bif !r11.1 then
           some (.inl (5,()))
          else
           again (C0,D0,E0,w64 (F0+1),H0,I0,J0,K0,L0,M0,N0,O0,P0,())
         else
          again (C0,D0,E0,w64 (F0+1),H0,I0,J0,K0,L0,M0,N0,O0,P0,())
        else
         again (C0,D0,E0,w64 (F0+1),H0,I0,J0,K0,L0,M0,N0,O0,P0,())
      else
       bif !C0 then
        bif !(Q0==[]) then
         (kI (H0,I0,J0,K0,L0,M0,N0,O0,P0) Q0).bind fun r12=>
         bif !r12.1 then
          some (.inl (5,()))
         else
          again (C0,D0,E0,w64 (F0+1),H0,I0,J0,K0,L0,M0,N0,O0,P0,())
        else
         again (C0,D0,E0,w64 (F0+1),H0,I0,J0,K0,L0,M0,N0,O0,P0,())
       else
        again (C0,D0,E0,w64 (F0+1),H0,I0,J0,K0,L0,M0,N0,O0,P0,())
 else
  some (.inr ())
def kZ (a0:an) (a1:List bY) (a2:Bool):Option (Int×Unit):=
 bif decide (((a1.length:Int))>20) then
  some (2,())
 else
  aG (
   iter (X:=ru) (β:=xO) (a1.length+(Int.natAbs ((a1.length:Int))+(Int.natAbs (0:Int)+(a0.1.length+(a0.2.1.length+(a0.2.2.1.natAbs+(a0.2.2.2.1.natAbs+(a0.2.2.2.2.1.natAbs+(a0.2.2.2.2.2.2.1.length+(a0.2.2.2.2.2.2.2.1.length+(a0.2.2.2.2.2.2.2.2.length+2))))))))))) (a2,a1,(a1.length:Int),0,a0.1,a0.2.1,a0.2.2.1,a0.2.2.2.1,a0.2.2.2.2.1,a0.2.2.2.2.2.1,a0.2.2.2.2.2.2.1,a0.2.2.2.2.2.2.2.1,a0.2.2.2.2.2.2.2.2,()) (rq)) fun _=>
  some (0,())
def u5 (a0:an) (a1:Int):Option (Int×Unit):=
 (idx a0.2.2.2.2.2.2.2.1 a1).bind fun y1=>
 (b8 y1.1 1 99999).bind fun r2=>
 bif r2.1 then
  some (1,())
 else
  bif decide (a1>0) then
   (idx a0.2.2.2.2.2.2.2.1 (w64 (a1 - 1))).bind fun y3=>
   bif decide (y1.1<=y3.1) then
    some (8,())
   else
    (b8 y1.2.1 1 99999).bind fun r4=>
    bif r4.1 then
     some (1,())
    else
     (bZ y1.2.2.1).bind fun r5=>
     bif !r5.1 then
      some (5,())
     else
      (cc y1.2.2.2.1).bind fun r6=>
      bif r6.1 != 0 then
       some (r6.1,())
      else
       bif decide (y1.2.2.2.1.2>3) then
        some (1,())
       else
        (gJ y1.2.2.2.1 1000000000).bind fun r7=>
        bif !r7.1 then
         some (1,())
        else
         bif y1.2.2.2.1.1==0 then
          some (13,())
         else
          (bZ y1.2.2.2.2.1).bind fun r8=>
          bif !r8.1 then
           some (5,())
          else
           (lC y1.2.2.2.2.2.1).bind fun r9=>
           bif r9.1 != 0 then
            some (r9.1,())
           else
            (b8 y1.2.2.2.2.2.2.1 1 100000).bind fun r10=>
            bif r10.1 then
             some (1,())
            else
             (kZ a0 y1.2.2.2.2.2.2.2.1 true).bind fun r11=>
             bif r11.1 != 0 then
              some (r11.1,())
             else
              (kI a0 y1.2.2.2.2.2.2.2.2).bind fun r12=>
              bif !r12.1 then
               some (5,())
              else
               some (0,())
  else
   (b8 y1.2.1 1 99999).bind fun r13=>
   bif r13.1 then
    some (1,())
   else
    (bZ y1.2.2.1).bind fun r14=>
    bif !r14.1 then
     some (5,())
    else
     (cc y1.2.2.2.1).bind fun r15=>
     bif r15.1 != 0 then
      some (r15.1,())
     else
      bif decide (y1.2.2.2.1.2>3) then
       some (1,())
      else
       (gJ y1.2.2.2.1 1000000000).bind fun r16=>
       bif !r16.1 then
        some (1,())
       else
        bif y1.2.2.2.1.1==0 then
         some (13,())
        else
         (bZ y1.2.2.2.2.1).bind fun r17=>
         bif !r17.1 then
          some (5,())
         else
          (lC y1.2.2.2.2.2.1).bind fun r18=>
          bif r18.1 != 0 then
           some (r18.1,())
          else
           (b8 y1.2.2.2.2.2.2.1 1 100000).bind fun r19=>
           bif r19.1 then
            some (1,())
           else
            (kZ a0 y1.2.2.2.2.2.2.2.1 true).bind fun r20=>
            bif r20.1 != 0 then
             some (r20.1,())
            else
             (kI a0 y1.2.2.2.2.2.2.2.2).bind fun r21=>
             bif !r21.1 then
              some (5,())
             else
              some (0,())
abbrev uZ:Type:=Int×Int×Bys×Bys×Int×Int×Int×Bool×(List aZ)×(List aI)×(List bY)×Unit
abbrev uY:Type:=((Int×Unit) ⊕ (Bys×Bys×Int×Int×Int×Bool×(List aZ)×(List aI)×(List bY)×Unit))
def oB (x1:uZ) (again:uZ->Option uY):Option uY:=
 match x1 with
 | (A,B,C,D,E,F,G,H,I,J,K,_)=>
 bif decide (B<A) then
  (u5 (C,D,E,F,G,H,I,J,K) B).bind fun r2=>
  bif r2.1 != 0 then
   some (.inl (r2.1,()))
  else
   again (A,w64 (B+1),C,D,E,F,G,H,I,J,K,())
 else
  some (.inr (C,D,E,F,G,H,I,J,K,()))
def iE (a0:an):Option (Int×Unit):=
 (bZ a0.1).bind fun r1=>
 bif !r1.1 then
  some (5,())
 else
  (bZ a0.2.1).bind fun r2=>
  bif !r2.1 then
   some (5,())
  else
   (oc a0.2.2.1).bind fun r3=>
   bif !r3.1 then
    some (1,())
   else
    (b8 a0.2.2.2.1 0 4).bind fun r4=>
    bif r4.1 then
     some (1,())
    else
     (GN a0.2.2.2.2.1).bind fun r5=>
     bif !r5.1 then
      some (4,())
     else
      (oD a0.2.2.2.2.2.2.1).bind fun r6=>
      bif r6.1 != 0 then
       some (r6.1,())
      else
       bif ((a0.2.2.2.2.2.2.2.1.length:Int))==0 then
        some (9,())
       else
        bif decide (((a0.2.2.2.2.2.2.2.1.length:Int))>500) then
         some (2,())
        else
         aG (
          iter (X:=uZ) (β:=uY) (Int.natAbs ((a0.2.2.2.2.2.2.2.1.length:Int))+(Int.natAbs (0:Int)+(a0.1.length+(a0.2.1.length+(a0.2.2.1.natAbs+(a0.2.2.2.1.natAbs+(a0.2.2.2.2.1.natAbs+(a0.2.2.2.2.2.2.1.length+(a0.2.2.2.2.2.2.2.1.length+(a0.2.2.2.2.2.2.2.2.length+2)))))))))) ((a0.2.2.2.2.2.2.2.1.length:Int),0,a0.1,a0.2.1,a0.2.2.1,a0.2.2.2.1,a0.2.2.2.2.1,a0.2.2.2.2.2.1,a0.2.2.2.2.2.2.1,a0.2.2.2.2.2.2.2.1,a0.2.2.2.2.2.2.2.2,()) (oB)) fun (A,B,C,D,E,F,G,H,I,_)=>
         (kZ (A,B,C,D,E,F,G,H,I) I false).bind fun r10=>
         some (r10.1,())
abbrev ox:Type:=Int×Int×Int×(List Int)×Int×Int×(List Int)×Int×Int×Bool×(List Int)×Bool×(List Int)×Bool×(List Int)×(List Int)×Unit
abbrev zU:Type:=(((au×Unit) ⊕ (Bool×(List Int)×Bool×(List Int)×Bool×(List Int)×(List Int)×Unit)) ⊕ (Int×Int×(List Int)×Int×Int×Bool×(List Int)×Bool×(List Int)×Bool×(List Int)×(List Int)×Unit))
def ud (x1:ox) (again:ox->Option zU):Option zU:=
 match x1 with
 | (A,B,C,D,E,F,G,H,I,J,K,L,M,N,O,P,_)=>
 bif decide (I<H) then
  (idx G I).bind fun y2=>
  chk (decide (0<=(w64 (A+I)))&&decide ((w64 (A+I))<(P.length:Int))) <|
  (P[(w64 (A+I)).toNat]?).bind fun y3=>
  let n4:Int:=cg ((cg y3)+(cg ((cg B)*(cg y2))))
  chk (decide (0<=(w64 (A+I)))&&decide ((w64 (A+I))<(P.length:Int))) <|
  (P[(w64 (A+I)).toNat]?).bind fun _=>
  again (A,B,Int.fdiv (cg (C+n4)) (2 ^ 32),D,E,F,G,H,w64 (I+1),J,K,L,M,N,O,List.set P (w64 (A+I)).toNat (pz (cg (C+n4))),())
 else
  some (.inr (A,C,D,E,F,J,K,L,M,N,O,P,()))
abbrev ov:Type:=(List Int)×Int×Int×Bool×(List Int)×Bool×(List Int)×Bool×(List Int)×(List Int)×Unit
abbrev zT:Type:=((au×Unit) ⊕ (Bool×(List Int)×Bool×(List Int)×Bool×(List Int)×(List Int)×Unit))
def uc (x1:ov) (again:ov->Option zT):Option zT:=
 match x1 with
 | (A,B,C,D,E,F,G,H,I,J,_)=>
 bif decide (C<B) then
  (idx A C).bind fun y2=>
  aG (
   iter (X:=ox) (β:=zU) (C.natAbs+(y2.natAbs+(Int.natAbs (0:Int)+(A.length+(B.natAbs+(C.natAbs+(G.length+(Int.natAbs ((G.length:Int))+(Int.natAbs (0:Int)+(E.length+(G.length+(I.length+(J.length+2))))))))))))) (C,y2,0,A,B,C,G,(G.length:Int),0,D,E,F,G,H,I,J,()) (ud)) fun (K,L,M,N,O,P,Q,R,S,T,U,V,_)=>
  chk (decide (0<=(w64 (K+((S.length:Int)))))&&decide ((w64 (K+((S.length:Int))))<(V.length:Int))) <|
  (V[(w64 (K+((S.length:Int)))).toNat]?).bind fun _=>
  again (M,N,w64 (O+1),P,Q,R,S,T,U,List.set V (w64 (K+((S.length:Int)))).toNat (pz L),())
 else
  some (.inr (D,E,F,G,H,I,J,()))
def gT (a0:au) (a1:au):Option (au×Unit):=
 chk (decide (0<=(w64 (((a0.2.length:Int))+((a1.2.length:Int)))))&&decide ((w64 (((a0.2.length:Int))+((a1.2.length:Int))))<=(w64 (((a0.2.length:Int))+((a1.2.length:Int)))))&&decide ((4:Int)*(w64 (((a0.2.length:Int))+((a1.2.length:Int))))<=281474976710656)&&decide ((w64 (((a0.2.length:Int))+((a1.2.length:Int))))<=9223372036854775807)) <|
 aG (
  iter (X:=ov) (β:=zT) (a0.2.length+(Int.natAbs ((a0.2.length:Int))+(Int.natAbs (0:Int)+(a0.2.length+(a1.2.length+(List.length ([]:List Int)+(List.length ((List.replicate (Int.toNat (w64 (((a0.2.length:Int))+((a1.2.length:Int))))) 0):List Int)+2))))))) (a0.2,(a0.2.length:Int),0,a0.1,a0.2,a1.1,a1.2,false,[],List.replicate (Int.toNat (w64 (((a0.2.length:Int))+((a1.2.length:Int))))) 0,()) (uc)) fun v10=>
 (kX (!(v10.1==v10.2.2.1)) v10.2.2.2.2.2.2.1).bind fun r11=>
 some (r11.1,())
abbrev vG:Type:=Int×Int×Bool×(List Int)×Bool×(List Int)×Unit
abbrev Ew:Type:=((au×Unit) ⊕ (Bool×(List Int)×Bool×(List Int)×Unit))
def As (x1:vG) (again:vG->Option Ew):Option Ew:=
 match x1 with
 | (A,B,C,D,E,F,_)=>
 bif decide (B<A) then
  (gX 10).bind fun r2=>
  (gT (E,F) r2.1).bind fun r3=>
  again (A,w64 (B+1),C,D,r3.1.1,r3.1.2,())
 else
  some (.inr (C,D,E,F,()))
def ER (a0:Int):Option (au×Unit):=
 (gX 1).bind fun r1=>
 aG (
  iter (X:=vG) (β:=Ew) (a0.natAbs+(Int.natAbs (0:Int)+(List.length ([]:List Int)+(r1.1.2.length+2)))) (a0,0,false,[],r1.1.1,r1.1.2,()) (As)) fun v5=>
 some ((v5.2.2.1,v5.2.2.2.1),())
abbrev Ez:Type:=(List Int)×(List Int)×Int×(List Int)×Int×Int×Unit
abbrev Ey:Type:=(((List Int)×Unit) ⊕ ((List Int)×Int×Unit))
def Vw (x1:Ez) (again:Ez->Option Ey):Option Ey:=
 match x1 with
 | (A,B,C,D,E,F,_)=>
 bif decide (F<E) then
  (idx D F).bind fun y2=>
  aG (γ:=((List Int)×(List Int)×Int×(List Int)×Int×Int×Unit)) (
   bif decide (F<((A.length:Int))) then
    (idx A F).bind fun y3=>
    let n4:Int:=cg ((cg (C+(cg y2)))+(cg y3))
    some (.inr (A,B,n4,D,E,F,()))
   else
    some (.inr (A,B,cg (C+(cg y2)),D,E,F,()))) fun (G,H,I,J,K,L,_)=>
  chk (decide (((H.length)+1)*4<=140737488355328)&&decide ((H.length)+1<=maxLen)) <|
  again (G,H++[(pz I)],Int.fdiv I (2 ^ 32),J,K,w64 (L+1),())
 else
  some (.inr (B,C,()))
def JI (a0:List Int) (a1:List Int):Option ((List Int)×Unit):=
 aG (γ:=((List Int)×(List Int)×Unit)) (
  bif decide (((a0.length:Int))<((a1.length:Int))) then
   some (.inr (a1,a0,()))
  else
   some (.inr (a0,a1,()))) fun (A,B,_)=>
 chk (decide (0<=(0:Int))&&decide ((0:Int)<=(w64 (((A.length:Int))+1)))&&decide ((4:Int)*(w64 (((A.length:Int))+1))<=281474976710656)&&decide ((w64 (((A.length:Int))+1))<=9223372036854775807)) <|
 aG (
  iter (X:=Ez) (β:=Ey) (B.length+(List.length ([]:List Int)+(Int.natAbs (0:Int)+(A.length+(Int.natAbs ((A.length:Int))+(Int.natAbs (0:Int)+2)))))) (B,[],0,A,(A.length:Int),0,()) (Vw)) fun (C,D,_)=>
 chk (decide (((C.length)+1)*4<=140737488355328)&&decide ((C.length)+1<=maxLen)) <|
 some (C++[(pz D)],())
def gQ (a0:au) (a1:au):Option (au×Unit):=
 bif a0.1==a1.1 then
  (JI a0.2 a1.2).bind fun r1=>
  (kX a0.1 r1.1).bind fun r2=>
  some (r2.1,())
 else
  (xD a0.2 a1.2).bind fun r3=>
  bif decide (r3.1>=0) then
   (Au a0.2 a1.2).bind fun r4=>
   (kX a0.1 r4.1).bind fun r5=>
   some (r5.1,())
  else
   (Au a1.2 a0.2).bind fun r6=>
   (kX a1.1 r6.1).bind fun r7=>
   some (r7.1,())
def lV (a0:au) (a1:au):Option (au×Unit):=
 (o8 a1).bind fun r1=>
 (gQ a0 r1.1).bind fun r2=>
 some (r2.1,())
def jS (a0:au) (a1:au):Option (Int×Unit):=
 (lV a0 a1).bind fun r1=>
 (fP r1.1).bind fun r2=>
 some (r2.1,())
def jB (a0:ah) (a1:Int):Option (au×Unit):=
 (gX a0.1).bind fun r1=>
 (ER (w64 (a1 - a0.2))).bind fun r2=>
 (gT r1.1 r2.1).bind fun r3=>
 some (r3.1,())
end Go.Md
namespace Go.Md
open Go.Dn
def XQ (n:Nat):Bys:=if n<10 then [UInt8.ofNat (48+n)] else [UInt8.ofNat (48+n / 10),UInt8.ofNat (48+n % 10)]
def strconv_Itoa (n:Int):Option (Bys×Unit):=bif decide (0<=n)&&decide (n<100) then some (XQ n.toNat,()) else bif decide (-9223372036854775808<=n)&&decide (n<=9223372036854775807) then some (Lib.itoa n,()) else none
def strings_Repeat (s:Bys) (n:Int):Option (Bys×Unit):=bif decide (0<=n)&&(decide (n<=9223372036854775807)&&decide (s.length*n.toNat<=140737488355328)) then some (Lib.repeatL s n.toNat,()) else none
def FW (_a:Bys):Option (Int×Unit):=none
def FF (_a:Bys):Option (Bool×Unit):=none
def Mu (_a:Bys):Option (Bool×Unit):=none
def Nj (_a:Bys):Option (Bool×Unit):=none
def Mv (_a _b:Int):Option (Bys×Unit):=none
abbrev cw:Ty:=(.st (.pair .str (.pair .str (.pair .str aC))))
abbrev aF:Type:=Bys×Bys×Bys×ah
abbrev dD:Ty:=(.st (.pair .str (.pair .str (.pair aC (.slice cw)))))
abbrev ak:Type:=Bys×Bys×ah×(List aF)
abbrev jx:Ty:=(.st (.pair .str (.pair .str (.pair tI (.slice dD)))))
abbrev bC:Type:=Bys×Bys×Int×(List ak)
abbrev qw:Ty:=(.st (.pair tI (.pair aC tI)))
abbrev ff:Type:=Int×ah×Int
abbrev aU:Ty:=(.st (.pair tI (.pair .str (.pair .str (.pair aC (.pair aC (.pair tI (.pair aC (.pair aC (.pair aC aC))))))))))
abbrev aj:Type:=Int×Bys×Bys×ah×ah×Int×ah×ah×ah×ah
abbrev bw:Type:=Bys×Bys×ah
abbrev aK:Ty:=(.st (.pair .str .str))
abbrev bL:Type:=Bys×Bys
def sr (a0:Int):Option (Bool×Unit):=
 (b8 a0 1 5).bind fun r1=>
 some (!r1.1,())
def D3 (a0:Int):Option ((List Int)×Unit):=
 bif a0==1 then
  some ([8,12,13,14],())
 else
  bif a0==2 then
   some ([13],())
  else
   some ([18],())
abbrev nI:Type:=(List Int)×Int×Int×Int×Unit
abbrev xZ:Type:=((Int×Unit) ⊕ Unit)
def rS (x1:nI) (again:nI->Option xZ):Option xZ:=
 match x1 with
 | (A,B,C,D,_)=>
 bif decide (D<C) then
  (idx A D).bind fun y2=>
  bif B==y2 then
   some (.inl (D,()))
  else
   again (A,B,C,w64 (D+1),())
 else
  some (.inr ())
def BW (a0:List Int) (a1:Int):Option (Int×Unit):=
 aG (
  iter (X:=nI) (β:=xZ) (a0.length+(a1.natAbs+(Int.natAbs ((a0.length:Int))+(Int.natAbs (0:Int)+2)))) (a0,a1,(a0.length:Int),0,()) (rS)) fun _=>
 some ((-1),())
def nH (a0:List Int) (a1:Int):Option (Bool×Unit):=
 (BW a0 a1).bind fun r1=>
 some (decide (r1.1>=0),())
abbrev vh:Type:=Bys×Int×Int×Int×Int×Unit
abbrev Ee:Type:=((Bool×Unit) ⊕ Unit)
def Af (x1:vh) (again:vh->Option Ee):Option Ee:=
 match x1 with
 | (A,B,C,D,E,_)=>
 bif decide (E<D) then
  (BV A E).bind fun c2=>
  bif decide ((c2.toNat:Int)<B) then
   some (.inl (false,()))
  else
   (BV A E).bind fun c3=>
   bif decide ((c3.toNat:Int)>C) then
    some (.inl (false,()))
   else
    again (A,B,C,D,w64 (E+1),())
 else
  some (.inr ())
def Jw (a0:Bys) (a1:Int) (a2:Int):Option (Bool×Unit):=
 aG (
  iter (X:=vh) (β:=Ee) (a0.length+(a1.natAbs+(a2.natAbs+(Int.natAbs ((a0.length:Int))+(Int.natAbs (0:Int)+2))))) (a0,a1,a2,(a0.length:Int),0,()) (Af)) fun _=>
 some (true,())
def qP (a0:Bys):Option (Bool×Unit):=
 bif !(a0==[]) then
  (Jw a0 48 57).bind fun r1=>
  some (r1.1,())
 else
  some (false,())
abbrev CR:Type:=Bys×Int×Int×Int×Unit
abbrev CQ:Type:=((Bool×Unit) ⊕ (Int×Unit))
def Sc (x1:CR) (again:CR->Option CQ):Option CQ:=
 match x1 with
 | (A,B,C,D,_)=>
 bif decide (D<C) then
  let n2:Int:=w64 ((w64 (((A.length:Int)) - 1)) - D)
  (BV A n2).bind fun c3=>
  bif (Int.tmod D 2)==1 then
   let n4:Int:=w64 ((w64 (wu8 ((c3.toNat:Int) - 48)))*3)
   again (A,w64 (B+n4),C,w64 (D+1),())
  else
   let n5:Int:=w64 (B+(w64 (wu8 ((c3.toNat:Int) - 48))))
   again (A,n5,C,w64 (D+1),())
 else
  some (.inr (B,()))
def GO (a0:Bys):Option (Bool×Unit):=
 aG (
  iter (X:=CR) (β:=CQ) (a0.length+(Int.natAbs (0:Int)+(Int.natAbs ((a0.length:Int))+(Int.natAbs (0:Int)+2)))) (a0,0,(a0.length:Int),0,()) (Sc)) fun v6=>
 some ((Int.tmod v6.1 10)==0,())
def oA (a0:Int) (a1:Bys):Option (Bool×Unit):=
 bif a0==4 then
  (FF a1).bind fun r1=>
  some (r1.1,())
 else
  bif a0==5 then
   (Nj a1).bind fun r2=>
   some (r2.1,())
  else
   (D3 a0).bind fun r3=>
   (nH r3.1 ((a1.length:Int))).bind fun r4=>
   bif r4.1 then
    (qP a1).bind fun r5=>
    bif r5.1 then
     (GO a1).bind fun r6=>
     some (r6.1,())
    else
     some (false,())
   else
    some (false,())
def ye (a0:Int) (a1:Bys):Option (Bool×Int×Unit):=
 (sr a0).bind fun r1=>
 bif !r1.1 then
  some (false,4,())
 else
  (oA a0 a1).bind fun r2=>
  some (r2.1,0,())
def qH (a0:Bys):Option (Bool×Unit):=
 (ye 3 a0).bind fun r1=>
 some (r1.1,())
def cZ (a0:ah) (a1:Bool):Option (Int×Unit):=
 (cc a0).bind fun r1=>
 bif r1.1 != 0 then
  some (r1.1,())
 else
  (vl a0 3 1000000000).bind fun r2=>
  bif !r2.1 then
   some (1,())
  else
   bif a0.1==0 then
    bif !a1 then
     some (1,())
    else
     some (0,())
   else
    some (0,())
abbrev Bv:Type:=Int×(List Int)×Int×Int×Unit
abbrev FI:Type:=((Int×Unit) ⊕ (Int×Unit))
def Bu (x1:Bv) (again:Bv->Option FI):Option FI:=
 match x1 with
 | (A,B,C,D,_)=>
 bif decide (D<C) then
  (idx B D).bind fun y2=>
  bif y2 != A then
   some (.inl (y2,()))
  else
   again (A,B,C,w64 (D+1),())
 else
  some (.inr (A,()))
def Gk (a0:List Int):Option (Int×Unit):=
 aG (
  iter (X:=Bv) (β:=FI) (Int.natAbs (0:Int)+(a0.length+(Int.natAbs ((a0.length:Int))+(Int.natAbs (0:Int)+2)))) (0,a0,(a0.length:Int),0,()) (Bu)) fun v3=>
 some (v3.1,())
def gh (a0:aF) (a1:aF):Option (Int×Unit):=
 (strings_Compare a0.1 a1.1).bind fun r1=>
 (strings_Compare a0.2.1 a1.2.1).bind fun r2=>
 (strings_Compare a0.2.2.1 a1.2.2.1).bind fun r3=>
 (Gk [r1.1,r2.1,r3.1]).bind fun r4=>
 some (r4.1,())
abbrev nu:Type:=(List aF)×(List aF)×Int×Int×Unit
abbrev sj:Type:=((Int×Unit) ⊕ Unit)
def nt (x1:nu) (again:nu->Option sj):Option sj:=
 match x1 with
 | (A,B,C,D,_)=>
 bif decide (D<C) then
  (idx B D).bind fun y2=>
  (bZ y2.1).bind fun r3=>
  bif !r3.1 then
   some (.inl (5,()))
  else
   (bZ y2.2.1).bind fun r4=>
   bif !r4.1 then
    some (.inl (5,()))
   else
    bif !(y2.2.2.1==[]) then
     (bZ y2.2.2.1).bind fun r5=>
     bif !r5.1 then
      some (.inl (5,()))
     else
      bif decide (D>0) then
       (idx A (w64 (D - 1))).bind fun y6=>
       (gh y6 y2).bind fun r7=>
       bif decide (r7.1>=0) then
        some (.inl (8,()))
       else
        (cZ y2.2.2.2 false).bind fun r8=>
        bif r8.1 != 0 then
         some (.inl (r8.1,()))
        else
         again (A,B,C,w64 (D+1),())
      else
       (cZ y2.2.2.2 false).bind fun r9=>
       bif r9.1 != 0 then
        some (.inl (r9.1,()))
       else
        again (A,B,C,w64 (D+1),())
    else
     bif decide (D>0) then
      (idx A (w64 (D - 1))).bind fun y10=>
      (gh y10 y2).bind fun r11=>
      bif decide (r11.1>=0) then
       some (.inl (8,()))
      else
       (cZ y2.2.2.2 false).bind fun r12=>
       bif r12.1 != 0 then
        some (.inl (r12.1,()))
       else
        again (A,B,C,w64 (D+1),())
     else
      (cZ y2.2.2.2 false).bind fun r13=>
      bif r13.1 != 0 then
       some (.inl (r13.1,()))
      else
       again (A,B,C,w64 (D+1),())
 else
  some (.inr ())
def jJ (a0:List aF):Option (Int×Unit):=
 bif decide (((a0.length:Int))>100) then
  some (2,())
 else
  aG (
   iter (X:=nu) (β:=sj) (a0.length+(a0.length+(Int.natAbs ((a0.length:Int))+(Int.natAbs (0:Int)+2)))) (a0,a0,(a0.length:Int),0,()) (nt)) fun _=>
  some (0,())
def tN (a0:List ak) (a1:Int):Option (Int×Unit):=
 (idx a0 a1).bind fun y1=>
 (qH y1.1).bind fun r2=>
 bif !r2.1 then
  some (3,())
 else
  bif decide (a1>0) then
   (idx a0 (w64 (a1 - 1))).bind fun y3=>
   bif Op.bytesLess y1.1 y3.1||y1.1==y3.1 then
    some (8,())
   else
    (cZ y1.2.2.1 true).bind fun r4=>
    bif r4.1 != 0 then
     some (r4.1,())
    else
     (jJ y1.2.2.2).bind fun r5=>
     some (r5.1,())
  else
   (cZ y1.2.2.1 true).bind fun r6=>
   bif r6.1 != 0 then
    some (r6.1,())
   else
    (jJ y1.2.2.2).bind fun r7=>
    some (r7.1,())
def AM (a0:ak) (a1:Bys):Option (Int×Unit):=
 (strings_Compare a0.1 a1).bind fun r1=>
 some (r1.1,())
abbrev cK:Type:=(List ak)×Bys×Unit×Int×Int×Int×Unit
abbrev gl:Type:=((Int×Bool×Unit) ⊕ ((List ak)×Bys×Unit×Int×Int×Unit))
def gj (x1:cK) (again:cK->Option gl):Option gl:=
 match x1 with
 | (A,B,C,D,E,F,_)=>
 bif decide (E<F) then
  let n2:Int:=w64 (Int.fdiv (cg (w64 (E+F))) (2 ^ 1))
  (idx A n2).bind fun y3=>
  (AM y3 B).bind fun r4=>
  bif decide (r4.1<0) then
   again (A,B,C,D,w64 (n2+1),F,())
  else
   again (A,B,C,D,E,n2,())
 else
  some (.inr (A,B,C,D,E,()))
def dZ (a0:List ak) (a1:Bys) (a2:Unit):Option (Int×Bool×Unit):=
 aG (
  iter (X:=cK) (β:=gl) (a0.length+(a1.length+(Int.natAbs ((a0.length:Int))+(Int.natAbs (0:Int)+(Int.natAbs ((a0.length:Int))+2))))) (a0,a1,a2,(a0.length:Int),0,(a0.length:Int),()) (gj)) fun (A,B,_,C,D,_)=>
 bif decide (D<C) then
  (idx A D).bind fun y6=>
  (AM y6 B).bind fun r7=>
  some (D,r7.1==0,())
 else
  some (D,false,())
def oU (a0:bC) (a1:Bys):Option (Int×Bool×Unit):=
 (dZ a0.2.2.2 a1 ()).bind fun r1=>
 some (r1.1,r1.2.1,())
abbrev nQ:Type:=Int×(List Int)×Int×Bys×Bys×Int×(List ak)×Unit
abbrev lD:Type:=(((List Int)×Bool×Unit) ⊕ ((List Int)×Unit))
def wD (x1:nQ) (again:nQ->Option lD):Option lD:=
 match x1 with
 | (A,B,C,D,E,F,G,_)=>
 (idx G C).bind fun y2=>
 bif !(y2.2.1==[]) then
  (idx G C).bind fun y3=>
  (oU (D,E,F,G) y3.2.1).bind fun r4=>
  bif r4.1==A then
   some (.inl ([],false,()))
  else
   (nH B r4.1).bind fun r5=>
   bif r5.1 then
    some (.inl (B,true,()))
   else
    chk (decide (((B.length)+1)*8<=140737488355328)&&decide ((B.length)+1<=maxLen)) <|
    again (A,B++[r4.1],r4.1,D,E,F,G,())
 else
  some (.inr (B,()))
def xy (a0:bC) (a1:Int):Option ((List Int)×Bool×Unit):=
 aG (
  iter (X:=nQ) (β:=lD) (a1.natAbs+(List.length ([]:List Int)+(a1.natAbs+(a0.1.length+(a0.2.1.length+(a0.2.2.1.natAbs+(a0.2.2.2.length+2))))))) (a1,[],a1,a0.1,a0.2.1,a0.2.2.1,a0.2.2.2,()) (wD)) fun v6=>
 some (v6.1,true,())
abbrev rN:Type:=(List ak)×Int×Int×Bys×Bys×Int×(List ak)×Unit
abbrev xW:Type:=((Int×Unit) ⊕ (Bys×Bys×Int×(List ak)×Unit))
def rL (x1:rN) (again:rN->Option xW):Option xW:=
 match x1 with
 | (A,B,C,D,E,F,G,_)=>
 bif decide (C<B) then
  (idx A C).bind fun y2=>
  (oU (D,E,F,G) y2.2.1).bind fun r3=>
  bif !(y2.2.1==[]) then
   bif !r3.2.1 then
    some (.inl (9,()))
   else
    again (A,B,w64 (C+1),D,E,F,G,())
  else
   again (A,B,w64 (C+1),D,E,F,G,())
 else
  some (.inr (D,E,F,G,()))
abbrev rO:Type:=Int×Int×Bys×Bys×Int×(List ak)×Unit
abbrev xX:Type:=((Int×Unit) ⊕ (Bys×Bys×Int×(List ak)×Unit))
def rM (x1:rO) (again:rO->Option xX):Option xX:=
 match x1 with
 | (A,B,C,D,E,F,_)=>
 bif decide (B<A) then
  (xy (C,D,E,F) B).bind fun r2=>
  bif !r2.2.1 then
   some (.inl (17,()))
  else
   again (A,w64 (B+1),C,D,E,F,())
 else
  some (.inr (C,D,E,F,()))
abbrev qm:Type:=Int×Int×Bys×Bys×Int×(List ak)×Unit
abbrev wJ:Type:=((Int×Unit) ⊕ Unit)
def qj (x1:qm) (again:qm->Option wJ):Option wJ:=
 match x1 with
 | (A,B,C,D,E,F,_)=>
 bif decide (B<A) then
  (xy (C,D,E,F) B).bind fun r2=>
  bif decide (((r2.1.length:Int))>5) then
   some (.inl (2,()))
  else
   again (A,w64 (B+1),C,D,E,F,())
 else
  some (.inr ())
def wI (a0:bC):Option (Int×Unit):=
 aG (
  iter (X:=rN) (β:=xW) (a0.2.2.2.length+(Int.natAbs ((a0.2.2.2.length:Int))+(Int.natAbs (0:Int)+(a0.1.length+(a0.2.1.length+(a0.2.2.1.natAbs+(a0.2.2.2.length+2))))))) (a0.2.2.2,(a0.2.2.2.length:Int),0,a0.1,a0.2.1,a0.2.2.1,a0.2.2.2,()) (rL)) fun (A,B,C,D,_)=>
 aG (
  iter (X:=rO) (β:=xX) (Int.natAbs ((D.length:Int))+(Int.natAbs (0:Int)+(A.length+(B.length+(C.natAbs+(D.length+2)))))) ((D.length:Int),0,A,B,C,D,()) (rM)) fun (E,F,G,H,_)=>
 aG (
  iter (X:=qm) (β:=wJ) (Int.natAbs ((H.length:Int))+(Int.natAbs (0:Int)+(E.length+(F.length+(G.natAbs+(H.length+2)))))) ((H.length:Int),0,E,F,G,H,()) (qj)) fun _=>
 some (0,())
abbrev oP:Type:=Int×Int×Bys×Bys×Int×(List ak)×Unit
abbrev vn:Type:=((Int×Unit) ⊕ (Bys×Bys×Int×(List ak)×Unit))
def oO (x1:oP) (again:oP->Option vn):Option vn:=
 match x1 with
 | (A,B,C,D,E,F,_)=>
 bif decide (B<A) then
  (tN F B).bind fun r2=>
  bif r2.1 != 0 then
   some (.inl (r2.1,()))
  else
   again (A,w64 (B+1),C,D,E,F,())
 else
  some (.inr (C,D,E,F,()))
def oo (a0:bC):Option (Int×Unit):=
 (bZ a0.1).bind fun r1=>
 bif !r1.1 then
  some (5,())
 else
  (bZ a0.2.1).bind fun r2=>
  bif !r2.1 then
   some (5,())
  else
   (oc a0.2.2.1).bind fun r3=>
   bif !r3.1 then
    some (1,())
   else
    bif decide (((a0.2.2.2.length:Int))>500) then
     some (2,())
    else
     aG (
      iter (X:=oP) (β:=vn) (Int.natAbs ((a0.2.2.2.length:Int))+(Int.natAbs (0:Int)+(a0.1.length+(a0.2.1.length+(a0.2.2.1.natAbs+(a0.2.2.2.length+2)))))) ((a0.2.2.2.length:Int),0,a0.1,a0.2.1,a0.2.2.1,a0.2.2.2,()) (oO)) fun (A,B,C,D,_)=>
     (wI (A,B,C,D)).bind fun r7=>
     some (r7.1,())
abbrev mJ:Type:=Bys×Int×Int×Int×Unit
abbrev HJ:Type:=((Bool×Unit) ⊕ (Int×Unit))
def qW (x1:mJ) (again:mJ->Option HJ):Option HJ:=
 match x1 with
 | (A,B,C,D,_)=>
 bif decide (D<C) then
  let n2:Int:=w64 ((w64 (((A.length:Int)) - 1)) - D)
  (BV A n2).bind fun c3=>
  bif (Int.tmod D 2)==1 then
   let n4:Int:=w64 ((w64 (wu8 ((c3.toNat:Int) - 48)))*3)
   again (A,w64 (B+n4),C,w64 (D+1),())
  else
   let n5:Int:=w64 (B+(w64 (wu8 ((c3.toNat:Int) - 48))))
   again (A,n5,C,w64 (D+1),())
 else
  some (.inr (B,()))
def Fl (a0:Bys):Option (Bool×Unit):=
 aG (
  iter (X:=mJ) (β:=HJ) (a0.length+(Int.natAbs (0:Int)+(Int.natAbs ((a0.length:Int))+(Int.natAbs (0:Int)+2)))) (a0,0,(a0.length:Int),0,()) (qW)) fun v6=>
 some ((Int.tmod v6.1 10)==0,())
abbrev vr:Type:=Int×Int×Int×Unit
abbrev Aq:Type:=((Int×Bool×Unit) ⊕ (Int×Unit))
def Ap (x1:vr) (again:vr->Option Aq):Option Aq:=
 bif decide (x1.2.2.1<x1.2.1) then
  again (w64 (x1.1*10),x1.2.1,w64 (x1.2.2.1+1),())
 else
  some (.inr (x1.1,()))
def A8 (a0:Bys):Option (Int×Bool×Unit):=
 bif decide (((a0.length:Int))>15) then
  some (0,false,())
 else
  (qP a0).bind fun r1=>
  bif !r1.1 then
   some (0,false,())
  else
   aG (
    iter (X:=vr) (β:=Aq) (Int.natAbs (1:Int)+(Int.natAbs (w64 (17 - ((a0.length:Int))))+(Int.natAbs (0:Int)+2))) (1,w64 (17 - ((a0.length:Int))),0,()) (Ap)) fun v3=>
   some (v3.1,true,())
abbrev mg:Type:=Int×Bys×Int×Unit
abbrev pQ:Type:=((Bys×Int×Unit) ⊕ Unit)
def vV (x1:mg) (again:mg->Option pQ):Option pQ:=
 bif decide (x1.2.2.1<10) then
  (strconv_Itoa x1.2.2.1).bind fun r2=>
  chk (decide (x1.2.1.length+r2.1.length<=maxLen)) <|
  (oA x1.1 (x1.2.1++r2.1)).bind fun r3=>
  bif r3.1 then
   some (.inl (x1.2.1++r2.1,0,()))
  else
   again (x1.1,x1.2.1,w64 (x1.2.2.1+1),())
 else
  some (.inr ())
def vU (a0:Int) (a1:Bys):Option (Bys×Int×Unit):=
 (sr a0).bind fun r1=>
 bif !r1.1 then
  some ([],4,())
 else
  bif decide (((a1.length:Int))>34) then
   some ([],3,())
  else
   bif a0==4 then
    bif decide (((a1.length:Int))<2) then
     some ([],3,())
    else
     (Mu a1).bind fun r2=>
     bif !r2.1 then
      some ([],3,())
     else
      bif decide (((a1.length:Int))<13) then
       some ([],3,())
      else
       chk (decide (0<=(0:Int))&&decide ((0:Int)<=2)&&decide (2<=(a1.length:Int))) <|
       chk (decide (List.length (List.drop 0 (List.take (Int.toNat 2) a1))+List.length [48,48]<=maxLen)) <|
       chk (decide (0<=(2:Int))&&decide ((2:Int)<=((a1.length:Int)))&&decide (((a1.length:Int))<=(a1.length:Int))) <|
       chk (decide (List.length ((List.drop 0 (List.take (Int.toNat 2) a1))++[48,48])+List.length (List.drop 2 (List.take (Int.toNat ((a1.length:Int))) a1))<=maxLen)) <|
       (FW (((List.drop 0 (List.take (Int.toNat 2) a1))++[48,48])++(List.drop 2 (List.take (Int.toNat ((a1.length:Int))) a1)))).bind fun r3=>
       chk (decide (0<=(0:Int))&&decide ((0:Int)<=2)&&decide (2<=(a1.length:Int))) <|
       (Mv (w64 (98 - r3.1)) 2).bind fun r4=>
       chk (decide (List.length (List.drop 0 (List.take (Int.toNat 2) a1))+r4.1.length<=maxLen)) <|
       chk (decide (0<=(2:Int))&&decide ((2:Int)<=((a1.length:Int)))&&decide (((a1.length:Int))<=(a1.length:Int))) <|
       chk (decide (List.length ((List.drop 0 (List.take (Int.toNat 2) a1))++r4.1)+List.length (List.drop 2 (List.take (Int.toNat ((a1.length:Int))) a1))<=maxLen)) <|
       (FF (((List.drop 0 (List.take (Int.toNat 2) a1))++r4.1)++(List.drop 2 (List.take (Int.toNat ((a1.length:Int))) a1)))).bind fun r5=>
       bif !r5.1 then
        some ([],3,())
       else
        some (((List.drop 0 (List.take (Int.toNat 2) a1))++r4.1)++(List.drop 2 (List.take (Int.toNat ((a1.length:Int))) a1)),0,())
   else
    aG (
     iter (X:=mg) (β:=pQ) (a0.natAbs+(a1.length+(Int.natAbs (0:Int)+2))) (a0,a1,0,()) (vV)) fun _=>
    some ([],3,())
def nP (a0:Bys) (a1:Int):Option (Bys×Int×Unit):=
 (A8 a0).bind fun r1=>
 bif !r1.2.1 then
  some ([],3,())
 else
  (b8 a1 0 (w64 (r1.1 - 1))).bind fun r2=>
  bif r2.1 then
   some ([],1,())
  else
   (strconv_Itoa a1).bind fun r3=>
   let n4:Int:=w64 ((w64 (17 - ((a0.length:Int)))) - ((r3.1.length:Int)))
   (strings_Repeat [48] n4).bind fun r5=>
   chk (decide (a0.length+r5.1.length<=maxLen)) <|
   chk (decide (List.length (a0++r5.1)+r3.1.length<=maxLen)) <|
   (vU 3 ((a0++r5.1)++r3.1)).bind fun r6=>
   some (r6.1,r6.2.1,())
end Go.Md
namespace Go.Md
open Go.Dn
end Go.Md
