/-
  The plain models of the functions that the law reaches, third part. No condition.
-/
import Derived.Test.YtjlkkapojeldlaaGreatDoorYn
import Derived.Test.YtjlkkapojeldlaaGreatDoorYd
import Derived.Lib.Atoi
import Derived.Lib.IndexBytes
namespace Go.Md
open Go.Dn
def cw (s:List UInt8) (c:Int):Option (Int×Unit):=some (Lib.indexByte s c.toNat.toUInt8,())
def aS (c:UInt8):List UInt8->List (List UInt8)
 | []=>[[]]
 | b::r=>bif b==c then []::aS c r else (match aS c r with
  | h::t=>(b::h)::t
  | []=>[[b]])
def strings_Split (s sep:List UInt8):Option (List (List UInt8)×Unit):=match sep with
 | [c]=>bif decide (s.length<4294967281) then some (aS c s,()) else none
 | _=>none
def Qy (b:UInt8):Bool:=decide (48<=b.toNat)&&decide (b.toNat<=57)
def jK (s:List UInt8) (most:Int):Option (Int×Bool×Unit):=
 bif decide (most<(s.length:Int)) then some (0,false,())
 else bif decide (s.length<=18) then (bif !(!(s==[])&&s.all Qy)||(decide (1<s.length)&&s.head? ==some 48) then some (0,false,()) else (Lib.atoi s).bind fun n=>some (n,true,())) else none
noncomputable section
abbrev LA:Type:=Int×Int×Int
abbrev pM:Type:=Bool×Bool×Bool×Bool×Bool
abbrev Mz:Type:=Bool×Bool×Bool×Bool×Bool×Bool
abbrev P5:Type:=Int×(List UInt8)×ah×(List UInt8)×ah×Int
abbrev bU:Type:=Int×Int×Int×Int×Int×(List UInt8)×ah×(List UInt8)×ah×Int×Int
abbrev yR:Type:=(List UInt8)×(List UInt8)×(List UInt8)×Int×Int×(List P5)
abbrev My:Type:=Int×(List UInt8)×(List UInt8)×Int×Int×Int×Int×ah×Int×Int×LA
abbrev pL:Type:=Int×Fp
def NT (a0:Int):Option (Mz×Unit):=
 bif a0==1 then
  some ((true,true,true,true,true,false),())
 else
  bif a0==3 then
   some ((false,false,false,false,true,false),())
  else
   bif a0==4 then
    some ((false,false,false,true,false,false),())
   else
    bif a0==5 then
     bif a0==5 then
      some ((false,false,false,false,false,true),())
     else
      bif a0==7 then
       some ((false,true,false,false,true,false),())
      else
       some ((false,true,false,false,false,false),())
    else
     bif a0==6 then
      bif a0==6 then
       some ((false,false,false,false,false,true),())
      else
       bif a0==7 then
        some ((false,true,false,false,true,false),())
       else
        some ((false,true,false,false,false,false),())
     else
      bif a0==8 then
       some ((false,false,false,false,false,true),())
      else
       bif a0==7 then
        some ((false,true,false,false,true,false),())
       else
        some ((false,true,false,false,false,false),())
def fI (a0:List UInt8) (a1:List UInt8):Option (Bool×Unit):=
 bif decide (((List.length a0:Int))>=((List.length a1:Int))) then
  chk (decide (0<=(w64 (((List.length a0:Int)) - ((List.length a1:Int)))))&&decide ((w64 (((List.length a0:Int)) - ((List.length a1:Int))))<=((List.length a0:Int)))&&decide (((List.length a0:Int))<=(List.length a0:Int))) <|
  some ((List.drop (Int.toNat (w64 (((List.length a0:Int)) - ((List.length a1:Int))))) (List.take (Int.toNat ((List.length a0:Int))) a0))==a1,())
 else
  some (false,())
def fG (a0:List UInt8) (a1:List UInt8):Option ((List UInt8)×Bool×Unit):=
 Option.bind (fI a0 a1) fun r1=>
 bif !r1.1 then
  some (a0,false,())
 else
  chk (decide (0<=(0:Int))&&decide ((0:Int)<=(w64 (((List.length a0:Int)) - ((List.length a1:Int)))))&&decide ((w64 (((List.length a0:Int)) - ((List.length a1:Int))))<=(List.length a0:Int))) <|
  some (List.drop 0 (List.take (Int.toNat (w64 (((List.length a0:Int)) - ((List.length a1:Int))))) a0),true,())
def kT (a0:List UInt8) (a1:List UInt8):Option ((List UInt8)×Bool×Unit):=
 Option.bind (fG a0 a1) fun r1=>
 some (r1.1,r1.2.1,())
def lM (a0:List UInt8):Option ((List (List UInt8))×Bool×Unit):=
 bif a0==[] then
  some ([],true,())
 else
  Option.bind (kT a0 [10]) fun r1=>
  Option.bind (strings_Split r1.1 [10]) fun r2=>
  some (r2.1,r1.2.1,())
abbrev nU:Type:=Int×Int×(List (List UInt8))×Unit
abbrev xA:Type:=(((List (List UInt8))×Bool×Unit) ⊕ ((List (List UInt8))×Unit))
def sB (x1:nU) (again:nU->Option xA):Option xA:=
 bif decide (x1.2.1<x1.1) then
  chk (decide (0<=x1.2.1)&&decide (x1.2.1<(x1.2.2.1.length:Int))) <|
  Option.bind (x1.2.2.1[x1.2.1.toNat]?) fun y2=>
  bif y2==[] then
   some (Sum.inl ([],false,()))
  else
   again (x1.1,w64 (x1.2.1+1),x1.2.2.1,())
 else
  some (Sum.inr (x1.2.2.1,()))
def iJ (a0:List UInt8):Option ((List (List UInt8))×Bool×Unit):=
 Option.bind (strings_Split a0 [32]) fun r1=>
 aP (β:=((List (List UInt8))×Bool×Unit)) (γ:=((List (List UInt8))×Unit)) (
  iter (X:=nU) (β:=xA) (Int.natAbs ((r1.1.length:Int))+(Int.natAbs (0:Int)+(r1.1.length+2))) ((r1.1.length:Int),0,r1.1,()) (sB)) fun v4=>
 some (v4.1,true,())
def iV (a0:(List (List UInt8))×Bool×Unit):Option ((List UInt8)×((List (List UInt8))×Bool×Unit)×Unit):=
 bif ((a0.1.length:Int))==0 then
  some ([],(a0.1,true,()),())
 else
  Option.bind (idx a0.1 0) fun y1=>
  chk (decide (0<=(1:Int))&&decide ((1:Int)<=((a0.1.length:Int)))&&decide (((a0.1.length:Int))<=(a0.1.length:Int))) <|
  some (y1,(List.drop 1 (List.take (Int.toNat ((a0.1.length:Int))) a0.1),a0.2.1,()),())
def gI (a0:(List (List UInt8))×Bool×Unit):Option (Int×((List (List UInt8))×Bool×Unit)×Unit):=
 Option.bind (iV (a0.1,a0.2.1,())) fun r1=>
 Option.bind (jK r1.1 16) fun r2=>
 bif r1.2.1.2.1 then
  some (r2.1,(r1.2.1.1,true,()),())
 else
  some (r2.1,(r1.2.1.1, !r2.2.1,()),())
def L3:Option ((List (List UInt8))×Unit):=
 some ([[],[98,117,121,101,114],[115,101,108,108,101,114]],())
def wo (a0:(List (List UInt8))×Bool×Unit) (a1:List (List UInt8)):Option (Int×((List (List UInt8))×Bool×Unit)×Unit):=
 Option.bind (iV (a0.1,a0.2.1,())) fun r1=>
 Option.bind (nu a1 r1.1) fun r2=>
 bif r1.2.1.2.1 then
  some (r2.1,(r1.2.1.1,true,()),())
 else
  some (r2.1,(r1.2.1.1,decide (r2.1<1),()),())
def Iw:Option ((List (List UInt8))×Unit):=
 some ([[],[97,100,100],[113,117,97,110,116,105,116,121],[100,117,101],[112,114,105,99,101],[121,101,115],[110,111],[111,102,102,101,114],[116,97,107,101],[115,104,105,112],[114,101,99,101,105,118,101],[114,101,116,117,114,110]],())
def fH (a0:List UInt8) (a1:List UInt8):Option (Bool×Unit):=
 bif decide (((List.length a0:Int))>=((List.length a1:Int))) then
  chk (decide (0<=(0:Int))&&decide ((0:Int)<=((List.length a1:Int)))&&decide (((List.length a1:Int))<=(List.length a0:Int))) <|
  some ((List.drop 0 (List.take (Int.toNat ((List.length a1:Int))) a0))==a1,())
 else
  some (false,())
def fF (a0:List UInt8) (a1:List UInt8):Option ((List UInt8)×Bool×Unit):=
 Option.bind (fH a0 a1) fun r1=>
 bif !r1.1 then
  some (a0,false,())
 else
  chk (decide (0<=((List.length a1:Int)))&&decide (((List.length a1:Int))<=((List.length a0:Int)))&&decide (((List.length a0:Int))<=(List.length a0:Int))) <|
  some (List.drop (Int.toNat ((List.length a1:Int))) (List.take (Int.toNat ((List.length a0:Int))) a0),true,())
def iq (a0:List UInt8) (a1:List UInt8):Option ((List UInt8)×Bool×Unit):=
 Option.bind (fF a0 a1) fun r1=>
 some (r1.1,r1.2.1,())
def eV (a0:List UInt8) (a1:List UInt8):Option (Int×Unit):=
 bif ((List.length a1:Int))==0 then
  some (0,())
 else
  bif a1==a0 then
   some (0,())
  else
   bif ((List.length a1:Int))==1 then
    Option.bind (eN a1 0) fun c1=>
    Option.bind (cw a0 (c1.toNat:Int)) fun r2=>
    some (r2.1,())
   else
    bif decide (((List.length a1:Int))>=((List.length a0:Int))) then
     some ((-1),())
    else
     none
def iR (a0:List UInt8) (a1:List UInt8):Option ((List UInt8)×(List UInt8)×Bool×Unit):=
 Option.bind (eV a0 a1) fun r1=>
 bif decide (r1.1>=0) then
  chk (decide (0<=(0:Int))&&decide ((0:Int)<=r1.1)&&decide (r1.1<=(List.length a0:Int))) <|
  chk (decide (0<=(w64 (r1.1+((List.length a1:Int)))))&&decide ((w64 (r1.1+((List.length a1:Int))))<=((List.length a0:Int)))&&decide (((List.length a0:Int))<=(List.length a0:Int))) <|
  some (List.drop 0 (List.take (Int.toNat r1.1) a0),List.drop (Int.toNat (w64 (r1.1+((List.length a1:Int))))) (List.take (Int.toNat ((List.length a0:Int))) a0),true,())
 else
  some (a0,[],false,())
def qu (a0:List UInt8) (a1:List UInt8):Option ((List UInt8)×(List UInt8)×Bool×Unit):=
 Option.bind (iR a0 a1) fun r1=>
 some (r1.1,r1.2.1,r1.2.2.1,())
def oJ (a0:List UInt8):Option (Bool×Unit):=
 Option.bind (
  Option.bind (gG a0) fun r1=>
  bif r1.1 then
   bif ((List.length a0:Int))==1 then
    some (true,())
   else
    Option.bind (eN a0 0) fun c2=>
    some ((c2.toNat:Int) != 48,())
  else
   some (false,())) fun v3=>
 some (v3.1,())
abbrev kY:Type:=Bool×(List UInt8)×(List UInt8)×Int×Int×Int×Int×Bool×(List Int)×Unit
abbrev tM:Type:=((ah×Int×Unit) ⊕ (Bool×(List UInt8)×Int×Int×Bool×(List Int)×Unit))
def oL (x1:kY) (again:kY->Option tM):Option tM:=
 bif decide (x1.2.2.2.2.1<x1.2.2.2.1) then
  Option.bind (ru 10) fun r2=>
  Option.bind (kr (x1.2.2.2.2.2.2.2.1,x1.2.2.2.2.2.2.2.2.1) r2.1) fun r3=>
  chk (decide (x1.2.1.length+x1.2.2.1.length<=maxLen)) <|
  Option.bind (eN (x1.2.1++x1.2.2.1) x1.2.2.2.2.1) fun c4=>
  Option.bind (ru (w64 (wu8 ((c4.toNat:Int) - 48)))) fun r5=>
  Option.bind (lH r3.1 r5.1) fun r6=>
  again (x1.1,x1.2.1,x1.2.2.1,x1.2.2.2.1,w64 (x1.2.2.2.2.1+1),x1.2.2.2.2.2.1,x1.2.2.2.2.2.2.1,r6.1.1,r6.1.2,())
 else
  some (Sum.inr (x1.1,x1.2.2.1,x1.2.2.2.2.2.1,x1.2.2.2.2.2.2.1,x1.2.2.2.2.2.2.2.1,x1.2.2.2.2.2.2.2.2.1,()))
def uH (a0:Bool) (a1:List UInt8) (a2:List UInt8):Option (ah×Int×Unit):=
 Option.bind (ru 0) fun r1=>
 chk (decide (List.length a1+List.length a2<=maxLen)) <|
 aP (β:=(ah×Int×Unit)) (γ:=(Bool×(List UInt8)×Int×Int×Bool×(List Int)×Unit)) (
  iter (X:=kY) (β:=tM) (List.length a1+(List.length a2+(Int.natAbs ((List.length (a1++a2):Int))+(Int.natAbs (0:Int)+(Int.natAbs (0:Int)+(Int.natAbs (0:Int)+(r1.1.2.length+2))))))) (a0,a1,a2,(List.length (a1++a2):Int),0,0,0,r1.1.1,r1.1.2,()) (oL)) fun v8=>
 bif v8.1 then
  Option.bind (lI (v8.2.2.2.2.1,v8.2.2.2.2.2.1)) fun r9=>
  bif r9.1==0 then
   some ((0,0),10,())
  else
   Option.bind (ko (v8.2.2.2.2.1,v8.2.2.2.2.2.1)) fun r10=>
   Option.bind (mR r10.1 ((v8.2.1.length:Int))) fun r11=>
   some (r11.1,r11.2.1,())
 else
  Option.bind (mR (v8.2.2.2.2.1,v8.2.2.2.2.2.1) ((v8.2.1.length:Int))) fun r12=>
  some (r12.1,r12.2.1,())
def fC (a0:List UInt8):Option (ah×Int×Unit):=
 Option.bind (iq a0 [45]) fun r1=>
 Option.bind (qu r1.1 [46]) fun r2=>
 Option.bind (
  bif decide (((List.length a0:Int))>40) then
   some (true,())
  else
   Option.bind (oJ r2.1) fun r3=>
   bif !r3.1 then
    some (true,())
   else
    bif r2.2.2.1 then
     Option.bind (gG r2.2.1) fun r4=>
     bif !r4.1 then
      some (true,())
     else
      some (decide (((r2.2.1.length:Int))>9),())
    else
     some (false,())) fun v5=>
 bif v5.1 then
  some ((0,0),10,())
 else
  Option.bind (uH r1.2.1 r2.1 r2.2.1) fun r6=>
  some (r6.1,r6.2.1,())
def tD (a0:(List (List UInt8))×Bool×Unit):Option (ah×((List (List UInt8))×Bool×Unit)×Unit):=
 Option.bind (iV (a0.1,a0.2.1,())) fun r1=>
 Option.bind (fC r1.1) fun r2=>
 bif r1.2.1.2.1 then
  some (r2.1,(r1.2.1.1,true,()),())
 else
  some (r2.1,(r1.2.1.1,r2.2.1 != 0,()),())
def Ki (a0:List UInt8):Option (bU×Bool×Unit):=
 Option.bind (iJ a0) fun r1=>
 bif !r1.2.1 then
  some ((0,0,0,0,0,[],(0,0),[],(0,0),0,0),false,())
 else
  Option.bind (gI (r1.1,false,())) fun r2=>
  Option.bind (L3) fun r3=>
  Option.bind (wo (r2.2.1.1,r2.2.1.2.1,()) r3.1) fun r4=>
  Option.bind (gI (r4.2.1.1,r4.2.1.2.1,())) fun r5=>
  Option.bind (Iw) fun r6=>
  Option.bind (wo (r5.2.1.1,r5.2.1.2.1,()) r6.1) fun r7=>
  Option.bind (gI (r7.2.1.1,r7.2.1.2.1,())) fun r8=>
  Option.bind (NT r7.1) fun r9=>
  aP (β:=(bU×Bool×Unit)) (γ:=(Int×Int×Int×Int×Int×(List UInt8)×Int×Int×(List UInt8)×Int×Int×Int×Int×Int×Int×Int×Int×Int×(List UInt8)×Int×Int×(List UInt8)×Int×Int×Int×Int×Bool×Bool×Bool×Bool×Bool×Bool×(List (List UInt8))×Bool×Unit)) (
   bif r9.1.1 then
    Option.bind (iV (r8.2.1.1,r8.2.1.2.1,())) fun r10=>
    some (Sum.inr (0,0,0,0,0,[],0,0,[],0,0,0,0,r2.1,r4.1,r5.1,r7.1,r8.1,r10.1,0,0,[],0,0,0,0,r9.1.1,r9.1.2.1,r9.1.2.2.1,r9.1.2.2.2.1,r9.1.2.2.2.2.1,r9.1.2.2.2.2.2,r10.2.1.1,r10.2.1.2.1,()))
   else
    some (Sum.inr (0,0,0,0,0,[],0,0,[],0,0,0,0,r2.1,r4.1,r5.1,r7.1,r8.1,[],0,0,[],0,0,0,0,r9.1.1,r9.1.2.1,r9.1.2.2.1,r9.1.2.2.2.1,r9.1.2.2.2.2.1,r9.1.2.2.2.2.2,r8.2.1.1,r8.2.1.2.1,()))) fun v11=>
  aP (β:=(bU×Bool×Unit)) (γ:=(Int×Int×Int×Int×Int×(List UInt8)×Int×Int×(List UInt8)×Int×Int×Int×Int×Int×Int×Int×Int×Int×(List UInt8)×Int×Int×(List UInt8)×Int×Int×Int×Int×Bool×Bool×Bool×Bool×Bool×Bool×(List (List UInt8))×Bool×Unit)) (
   bif v11.2.2.2.2.2.2.2.2.2.2.2.2.2.2.2.2.2.2.2.2.2.2.2.2.2.2.2.1 then
    Option.bind (tD (v11.2.2.2.2.2.2.2.2.2.2.2.2.2.2.2.2.2.2.2.2.2.2.2.2.2.2.2.2.2.2.2.2.1,v11.2.2.2.2.2.2.2.2.2.2.2.2.2.2.2.2.2.2.2.2.2.2.2.2.2.2.2.2.2.2.2.2.2.1,())) fun r12=>
    some (Sum.inr (v11.1,v11.2.1,v11.2.2.1,v11.2.2.2.1,v11.2.2.2.2.1,v11.2.2.2.2.2.1,v11.2.2.2.2.2.2.1,v11.2.2.2.2.2.2.2.1,v11.2.2.2.2.2.2.2.2.1,v11.2.2.2.2.2.2.2.2.2.1,v11.2.2.2.2.2.2.2.2.2.2.1,v11.2.2.2.2.2.2.2.2.2.2.2.1,v11.2.2.2.2.2.2.2.2.2.2.2.2.1,v11.2.2.2.2.2.2.2.2.2.2.2.2.2.1,v11.2.2.2.2.2.2.2.2.2.2.2.2.2.2.1,v11.2.2.2.2.2.2.2.2.2.2.2.2.2.2.2.1,v11.2.2.2.2.2.2.2.2.2.2.2.2.2.2.2.2.1,v11.2.2.2.2.2.2.2.2.2.2.2.2.2.2.2.2.2.1,v11.2.2.2.2.2.2.2.2.2.2.2.2.2.2.2.2.2.2.1,r12.1.1,r12.1.2,v11.2.2.2.2.2.2.2.2.2.2.2.2.2.2.2.2.2.2.2.2.2.1,v11.2.2.2.2.2.2.2.2.2.2.2.2.2.2.2.2.2.2.2.2.2.2.1,v11.2.2.2.2.2.2.2.2.2.2.2.2.2.2.2.2.2.2.2.2.2.2.2.1,v11.2.2.2.2.2.2.2.2.2.2.2.2.2.2.2.2.2.2.2.2.2.2.2.2.1,v11.2.2.2.2.2.2.2.2.2.2.2.2.2.2.2.2.2.2.2.2.2.2.2.2.2.1,v11.2.2.2.2.2.2.2.2.2.2.2.2.2.2.2.2.2.2.2.2.2.2.2.2.2.2.1,v11.2.2.2.2.2.2.2.2.2.2.2.2.2.2.2.2.2.2.2.2.2.2.2.2.2.2.2.1,v11.2.2.2.2.2.2.2.2.2.2.2.2.2.2.2.2.2.2.2.2.2.2.2.2.2.2.2.2.1,v11.2.2.2.2.2.2.2.2.2.2.2.2.2.2.2.2.2.2.2.2.2.2.2.2.2.2.2.2.2.1,v11.2.2.2.2.2.2.2.2.2.2.2.2.2.2.2.2.2.2.2.2.2.2.2.2.2.2.2.2.2.2.1,v11.2.2.2.2.2.2.2.2.2.2.2.2.2.2.2.2.2.2.2.2.2.2.2.2.2.2.2.2.2.2.2.1,r12.2.1.1,r12.2.1.2.1,()))
   else
    some (Sum.inr (v11.1,v11.2.1,v11.2.2.1,v11.2.2.2.1,v11.2.2.2.2.1,v11.2.2.2.2.2.1,v11.2.2.2.2.2.2.1,v11.2.2.2.2.2.2.2.1,v11.2.2.2.2.2.2.2.2.1,v11.2.2.2.2.2.2.2.2.2.1,v11.2.2.2.2.2.2.2.2.2.2.1,v11.2.2.2.2.2.2.2.2.2.2.2.1,v11.2.2.2.2.2.2.2.2.2.2.2.2.1,v11.2.2.2.2.2.2.2.2.2.2.2.2.2.1,v11.2.2.2.2.2.2.2.2.2.2.2.2.2.2.1,v11.2.2.2.2.2.2.2.2.2.2.2.2.2.2.2.1,v11.2.2.2.2.2.2.2.2.2.2.2.2.2.2.2.2.1,v11.2.2.2.2.2.2.2.2.2.2.2.2.2.2.2.2.2.1,v11.2.2.2.2.2.2.2.2.2.2.2.2.2.2.2.2.2.2.1,v11.2.2.2.2.2.2.2.2.2.2.2.2.2.2.2.2.2.2.2.1,v11.2.2.2.2.2.2.2.2.2.2.2.2.2.2.2.2.2.2.2.2.1,v11.2.2.2.2.2.2.2.2.2.2.2.2.2.2.2.2.2.2.2.2.2.1,v11.2.2.2.2.2.2.2.2.2.2.2.2.2.2.2.2.2.2.2.2.2.2.1,v11.2.2.2.2.2.2.2.2.2.2.2.2.2.2.2.2.2.2.2.2.2.2.2.1,v11.2.2.2.2.2.2.2.2.2.2.2.2.2.2.2.2.2.2.2.2.2.2.2.2.1,v11.2.2.2.2.2.2.2.2.2.2.2.2.2.2.2.2.2.2.2.2.2.2.2.2.2.1,v11.2.2.2.2.2.2.2.2.2.2.2.2.2.2.2.2.2.2.2.2.2.2.2.2.2.2.1,v11.2.2.2.2.2.2.2.2.2.2.2.2.2.2.2.2.2.2.2.2.2.2.2.2.2.2.2.1,v11.2.2.2.2.2.2.2.2.2.2.2.2.2.2.2.2.2.2.2.2.2.2.2.2.2.2.2.2.1,v11.2.2.2.2.2.2.2.2.2.2.2.2.2.2.2.2.2.2.2.2.2.2.2.2.2.2.2.2.2.1,v11.2.2.2.2.2.2.2.2.2.2.2.2.2.2.2.2.2.2.2.2.2.2.2.2.2.2.2.2.2.2.1,v11.2.2.2.2.2.2.2.2.2.2.2.2.2.2.2.2.2.2.2.2.2.2.2.2.2.2.2.2.2.2.2.1,v11.2.2.2.2.2.2.2.2.2.2.2.2.2.2.2.2.2.2.2.2.2.2.2.2.2.2.2.2.2.2.2.2.1,v11.2.2.2.2.2.2.2.2.2.2.2.2.2.2.2.2.2.2.2.2.2.2.2.2.2.2.2.2.2.2.2.2.2.1,()))) fun v13=>
  aP (β:=(bU×Bool×Unit)) (γ:=(Int×Int×Int×Int×Int×(List UInt8)×Int×Int×(List UInt8)×Int×Int×Int×Int×Int×Int×Int×Int×Int×(List UInt8)×Int×Int×(List UInt8)×Int×Int×Int×Int×Bool×Bool×Bool×Bool×Bool×Bool×(List (List UInt8))×Bool×Unit)) (
   bif v13.2.2.2.2.2.2.2.2.2.2.2.2.2.2.2.2.2.2.2.2.2.2.2.2.2.2.2.2.1 then
    Option.bind (iV (v13.2.2.2.2.2.2.2.2.2.2.2.2.2.2.2.2.2.2.2.2.2.2.2.2.2.2.2.2.2.2.2.2.1,v13.2.2.2.2.2.2.2.2.2.2.2.2.2.2.2.2.2.2.2.2.2.2.2.2.2.2.2.2.2.2.2.2.2.1,())) fun r14=>
    some (Sum.inr (v13.1,v13.2.1,v13.2.2.1,v13.2.2.2.1,v13.2.2.2.2.1,v13.2.2.2.2.2.1,v13.2.2.2.2.2.2.1,v13.2.2.2.2.2.2.2.1,v13.2.2.2.2.2.2.2.2.1,v13.2.2.2.2.2.2.2.2.2.1,v13.2.2.2.2.2.2.2.2.2.2.1,v13.2.2.2.2.2.2.2.2.2.2.2.1,v13.2.2.2.2.2.2.2.2.2.2.2.2.1,v13.2.2.2.2.2.2.2.2.2.2.2.2.2.1,v13.2.2.2.2.2.2.2.2.2.2.2.2.2.2.1,v13.2.2.2.2.2.2.2.2.2.2.2.2.2.2.2.1,v13.2.2.2.2.2.2.2.2.2.2.2.2.2.2.2.2.1,v13.2.2.2.2.2.2.2.2.2.2.2.2.2.2.2.2.2.1,v13.2.2.2.2.2.2.2.2.2.2.2.2.2.2.2.2.2.2.1,v13.2.2.2.2.2.2.2.2.2.2.2.2.2.2.2.2.2.2.2.1,v13.2.2.2.2.2.2.2.2.2.2.2.2.2.2.2.2.2.2.2.2.1,r14.1,v13.2.2.2.2.2.2.2.2.2.2.2.2.2.2.2.2.2.2.2.2.2.2.1,v13.2.2.2.2.2.2.2.2.2.2.2.2.2.2.2.2.2.2.2.2.2.2.2.1,v13.2.2.2.2.2.2.2.2.2.2.2.2.2.2.2.2.2.2.2.2.2.2.2.2.1,v13.2.2.2.2.2.2.2.2.2.2.2.2.2.2.2.2.2.2.2.2.2.2.2.2.2.1,v13.2.2.2.2.2.2.2.2.2.2.2.2.2.2.2.2.2.2.2.2.2.2.2.2.2.2.1,v13.2.2.2.2.2.2.2.2.2.2.2.2.2.2.2.2.2.2.2.2.2.2.2.2.2.2.2.1,v13.2.2.2.2.2.2.2.2.2.2.2.2.2.2.2.2.2.2.2.2.2.2.2.2.2.2.2.2.1,v13.2.2.2.2.2.2.2.2.2.2.2.2.2.2.2.2.2.2.2.2.2.2.2.2.2.2.2.2.2.1,v13.2.2.2.2.2.2.2.2.2.2.2.2.2.2.2.2.2.2.2.2.2.2.2.2.2.2.2.2.2.2.1,v13.2.2.2.2.2.2.2.2.2.2.2.2.2.2.2.2.2.2.2.2.2.2.2.2.2.2.2.2.2.2.2.1,r14.2.1.1,r14.2.1.2.1,()))
   else
    some (Sum.inr (v13.1,v13.2.1,v13.2.2.1,v13.2.2.2.1,v13.2.2.2.2.1,v13.2.2.2.2.2.1,v13.2.2.2.2.2.2.1,v13.2.2.2.2.2.2.2.1,v13.2.2.2.2.2.2.2.2.1,v13.2.2.2.2.2.2.2.2.2.1,v13.2.2.2.2.2.2.2.2.2.2.1,v13.2.2.2.2.2.2.2.2.2.2.2.1,v13.2.2.2.2.2.2.2.2.2.2.2.2.1,v13.2.2.2.2.2.2.2.2.2.2.2.2.2.1,v13.2.2.2.2.2.2.2.2.2.2.2.2.2.2.1,v13.2.2.2.2.2.2.2.2.2.2.2.2.2.2.2.1,v13.2.2.2.2.2.2.2.2.2.2.2.2.2.2.2.2.1,v13.2.2.2.2.2.2.2.2.2.2.2.2.2.2.2.2.2.1,v13.2.2.2.2.2.2.2.2.2.2.2.2.2.2.2.2.2.2.1,v13.2.2.2.2.2.2.2.2.2.2.2.2.2.2.2.2.2.2.2.1,v13.2.2.2.2.2.2.2.2.2.2.2.2.2.2.2.2.2.2.2.2.1,v13.2.2.2.2.2.2.2.2.2.2.2.2.2.2.2.2.2.2.2.2.2.1,v13.2.2.2.2.2.2.2.2.2.2.2.2.2.2.2.2.2.2.2.2.2.2.1,v13.2.2.2.2.2.2.2.2.2.2.2.2.2.2.2.2.2.2.2.2.2.2.2.1,v13.2.2.2.2.2.2.2.2.2.2.2.2.2.2.2.2.2.2.2.2.2.2.2.2.1,v13.2.2.2.2.2.2.2.2.2.2.2.2.2.2.2.2.2.2.2.2.2.2.2.2.2.1,v13.2.2.2.2.2.2.2.2.2.2.2.2.2.2.2.2.2.2.2.2.2.2.2.2.2.2.1,v13.2.2.2.2.2.2.2.2.2.2.2.2.2.2.2.2.2.2.2.2.2.2.2.2.2.2.2.1,v13.2.2.2.2.2.2.2.2.2.2.2.2.2.2.2.2.2.2.2.2.2.2.2.2.2.2.2.2.1,v13.2.2.2.2.2.2.2.2.2.2.2.2.2.2.2.2.2.2.2.2.2.2.2.2.2.2.2.2.2.1,v13.2.2.2.2.2.2.2.2.2.2.2.2.2.2.2.2.2.2.2.2.2.2.2.2.2.2.2.2.2.2.1,v13.2.2.2.2.2.2.2.2.2.2.2.2.2.2.2.2.2.2.2.2.2.2.2.2.2.2.2.2.2.2.2.1,v13.2.2.2.2.2.2.2.2.2.2.2.2.2.2.2.2.2.2.2.2.2.2.2.2.2.2.2.2.2.2.2.2.1,v13.2.2.2.2.2.2.2.2.2.2.2.2.2.2.2.2.2.2.2.2.2.2.2.2.2.2.2.2.2.2.2.2.2.1,()))) fun v15=>
  aP (β:=(bU×Bool×Unit)) (γ:=(Int×Int×Int×Int×Int×(List UInt8)×Int×Int×(List UInt8)×Int×Int×Int×Int×Int×Int×Int×Int×Int×(List UInt8)×Int×Int×(List UInt8)×Int×Int×Int×Int×Bool×Bool×Bool×Bool×Bool×Bool×(List (List UInt8))×Bool×Unit)) (
   bif v15.2.2.2.2.2.2.2.2.2.2.2.2.2.2.2.2.2.2.2.2.2.2.2.2.2.2.2.2.2.1 then
    Option.bind (tD (v15.2.2.2.2.2.2.2.2.2.2.2.2.2.2.2.2.2.2.2.2.2.2.2.2.2.2.2.2.2.2.2.2.1,v15.2.2.2.2.2.2.2.2.2.2.2.2.2.2.2.2.2.2.2.2.2.2.2.2.2.2.2.2.2.2.2.2.2.1,())) fun r16=>
    some (Sum.inr (v15.1,v15.2.1,v15.2.2.1,v15.2.2.2.1,v15.2.2.2.2.1,v15.2.2.2.2.2.1,v15.2.2.2.2.2.2.1,v15.2.2.2.2.2.2.2.1,v15.2.2.2.2.2.2.2.2.1,v15.2.2.2.2.2.2.2.2.2.1,v15.2.2.2.2.2.2.2.2.2.2.1,v15.2.2.2.2.2.2.2.2.2.2.2.1,v15.2.2.2.2.2.2.2.2.2.2.2.2.1,v15.2.2.2.2.2.2.2.2.2.2.2.2.2.1,v15.2.2.2.2.2.2.2.2.2.2.2.2.2.2.1,v15.2.2.2.2.2.2.2.2.2.2.2.2.2.2.2.1,v15.2.2.2.2.2.2.2.2.2.2.2.2.2.2.2.2.1,v15.2.2.2.2.2.2.2.2.2.2.2.2.2.2.2.2.2.1,v15.2.2.2.2.2.2.2.2.2.2.2.2.2.2.2.2.2.2.1,v15.2.2.2.2.2.2.2.2.2.2.2.2.2.2.2.2.2.2.2.1,v15.2.2.2.2.2.2.2.2.2.2.2.2.2.2.2.2.2.2.2.2.1,v15.2.2.2.2.2.2.2.2.2.2.2.2.2.2.2.2.2.2.2.2.2.1,r16.1.1,r16.1.2,v15.2.2.2.2.2.2.2.2.2.2.2.2.2.2.2.2.2.2.2.2.2.2.2.2.1,v15.2.2.2.2.2.2.2.2.2.2.2.2.2.2.2.2.2.2.2.2.2.2.2.2.2.1,v15.2.2.2.2.2.2.2.2.2.2.2.2.2.2.2.2.2.2.2.2.2.2.2.2.2.2.1,v15.2.2.2.2.2.2.2.2.2.2.2.2.2.2.2.2.2.2.2.2.2.2.2.2.2.2.2.1,v15.2.2.2.2.2.2.2.2.2.2.2.2.2.2.2.2.2.2.2.2.2.2.2.2.2.2.2.2.1,v15.2.2.2.2.2.2.2.2.2.2.2.2.2.2.2.2.2.2.2.2.2.2.2.2.2.2.2.2.2.1,v15.2.2.2.2.2.2.2.2.2.2.2.2.2.2.2.2.2.2.2.2.2.2.2.2.2.2.2.2.2.2.1,v15.2.2.2.2.2.2.2.2.2.2.2.2.2.2.2.2.2.2.2.2.2.2.2.2.2.2.2.2.2.2.2.1,r16.2.1.1,r16.2.1.2.1,()))
   else
    some (Sum.inr (v15.1,v15.2.1,v15.2.2.1,v15.2.2.2.1,v15.2.2.2.2.1,v15.2.2.2.2.2.1,v15.2.2.2.2.2.2.1,v15.2.2.2.2.2.2.2.1,v15.2.2.2.2.2.2.2.2.1,v15.2.2.2.2.2.2.2.2.2.1,v15.2.2.2.2.2.2.2.2.2.2.1,v15.2.2.2.2.2.2.2.2.2.2.2.1,v15.2.2.2.2.2.2.2.2.2.2.2.2.1,v15.2.2.2.2.2.2.2.2.2.2.2.2.2.1,v15.2.2.2.2.2.2.2.2.2.2.2.2.2.2.1,v15.2.2.2.2.2.2.2.2.2.2.2.2.2.2.2.1,v15.2.2.2.2.2.2.2.2.2.2.2.2.2.2.2.2.1,v15.2.2.2.2.2.2.2.2.2.2.2.2.2.2.2.2.2.1,v15.2.2.2.2.2.2.2.2.2.2.2.2.2.2.2.2.2.2.1,v15.2.2.2.2.2.2.2.2.2.2.2.2.2.2.2.2.2.2.2.1,v15.2.2.2.2.2.2.2.2.2.2.2.2.2.2.2.2.2.2.2.2.1,v15.2.2.2.2.2.2.2.2.2.2.2.2.2.2.2.2.2.2.2.2.2.1,v15.2.2.2.2.2.2.2.2.2.2.2.2.2.2.2.2.2.2.2.2.2.2.1,v15.2.2.2.2.2.2.2.2.2.2.2.2.2.2.2.2.2.2.2.2.2.2.2.1,v15.2.2.2.2.2.2.2.2.2.2.2.2.2.2.2.2.2.2.2.2.2.2.2.2.1,v15.2.2.2.2.2.2.2.2.2.2.2.2.2.2.2.2.2.2.2.2.2.2.2.2.2.1,v15.2.2.2.2.2.2.2.2.2.2.2.2.2.2.2.2.2.2.2.2.2.2.2.2.2.2.1,v15.2.2.2.2.2.2.2.2.2.2.2.2.2.2.2.2.2.2.2.2.2.2.2.2.2.2.2.1,v15.2.2.2.2.2.2.2.2.2.2.2.2.2.2.2.2.2.2.2.2.2.2.2.2.2.2.2.2.1,v15.2.2.2.2.2.2.2.2.2.2.2.2.2.2.2.2.2.2.2.2.2.2.2.2.2.2.2.2.2.1,v15.2.2.2.2.2.2.2.2.2.2.2.2.2.2.2.2.2.2.2.2.2.2.2.2.2.2.2.2.2.2.1,v15.2.2.2.2.2.2.2.2.2.2.2.2.2.2.2.2.2.2.2.2.2.2.2.2.2.2.2.2.2.2.2.1,v15.2.2.2.2.2.2.2.2.2.2.2.2.2.2.2.2.2.2.2.2.2.2.2.2.2.2.2.2.2.2.2.2.1,v15.2.2.2.2.2.2.2.2.2.2.2.2.2.2.2.2.2.2.2.2.2.2.2.2.2.2.2.2.2.2.2.2.2.1,()))) fun v17=>
  aP (β:=(bU×Bool×Unit)) (γ:=(Int×Int×Int×Int×Int×(List UInt8)×Int×Int×(List UInt8)×Int×Int×Int×Int×Int×Int×Int×Int×Int×(List UInt8)×Int×Int×(List UInt8)×Int×Int×Int×Int×Bool×Bool×Bool×Bool×Bool×Bool×(List (List UInt8))×Bool×Unit)) (
   bif v17.2.2.2.2.2.2.2.2.2.2.2.2.2.2.2.2.2.2.2.2.2.2.2.2.2.2.2.2.2.2.1 then
    Option.bind (gI (v17.2.2.2.2.2.2.2.2.2.2.2.2.2.2.2.2.2.2.2.2.2.2.2.2.2.2.2.2.2.2.2.2.1,v17.2.2.2.2.2.2.2.2.2.2.2.2.2.2.2.2.2.2.2.2.2.2.2.2.2.2.2.2.2.2.2.2.2.1,())) fun r18=>
    some (Sum.inr (v17.1,v17.2.1,v17.2.2.1,v17.2.2.2.1,v17.2.2.2.2.1,v17.2.2.2.2.2.1,v17.2.2.2.2.2.2.1,v17.2.2.2.2.2.2.2.1,v17.2.2.2.2.2.2.2.2.1,v17.2.2.2.2.2.2.2.2.2.1,v17.2.2.2.2.2.2.2.2.2.2.1,v17.2.2.2.2.2.2.2.2.2.2.2.1,v17.2.2.2.2.2.2.2.2.2.2.2.2.1,v17.2.2.2.2.2.2.2.2.2.2.2.2.2.1,v17.2.2.2.2.2.2.2.2.2.2.2.2.2.2.1,v17.2.2.2.2.2.2.2.2.2.2.2.2.2.2.2.1,v17.2.2.2.2.2.2.2.2.2.2.2.2.2.2.2.2.1,v17.2.2.2.2.2.2.2.2.2.2.2.2.2.2.2.2.2.1,v17.2.2.2.2.2.2.2.2.2.2.2.2.2.2.2.2.2.2.1,v17.2.2.2.2.2.2.2.2.2.2.2.2.2.2.2.2.2.2.2.1,v17.2.2.2.2.2.2.2.2.2.2.2.2.2.2.2.2.2.2.2.2.1,v17.2.2.2.2.2.2.2.2.2.2.2.2.2.2.2.2.2.2.2.2.2.1,v17.2.2.2.2.2.2.2.2.2.2.2.2.2.2.2.2.2.2.2.2.2.2.1,v17.2.2.2.2.2.2.2.2.2.2.2.2.2.2.2.2.2.2.2.2.2.2.2.1,r18.1,v17.2.2.2.2.2.2.2.2.2.2.2.2.2.2.2.2.2.2.2.2.2.2.2.2.2.1,v17.2.2.2.2.2.2.2.2.2.2.2.2.2.2.2.2.2.2.2.2.2.2.2.2.2.2.1,v17.2.2.2.2.2.2.2.2.2.2.2.2.2.2.2.2.2.2.2.2.2.2.2.2.2.2.2.1,v17.2.2.2.2.2.2.2.2.2.2.2.2.2.2.2.2.2.2.2.2.2.2.2.2.2.2.2.2.1,v17.2.2.2.2.2.2.2.2.2.2.2.2.2.2.2.2.2.2.2.2.2.2.2.2.2.2.2.2.2.1,v17.2.2.2.2.2.2.2.2.2.2.2.2.2.2.2.2.2.2.2.2.2.2.2.2.2.2.2.2.2.2.1,v17.2.2.2.2.2.2.2.2.2.2.2.2.2.2.2.2.2.2.2.2.2.2.2.2.2.2.2.2.2.2.2.1,r18.2.1.1,r18.2.1.2.1,()))
   else
    some (Sum.inr (v17.1,v17.2.1,v17.2.2.1,v17.2.2.2.1,v17.2.2.2.2.1,v17.2.2.2.2.2.1,v17.2.2.2.2.2.2.1,v17.2.2.2.2.2.2.2.1,v17.2.2.2.2.2.2.2.2.1,v17.2.2.2.2.2.2.2.2.2.1,v17.2.2.2.2.2.2.2.2.2.2.1,v17.2.2.2.2.2.2.2.2.2.2.2.1,v17.2.2.2.2.2.2.2.2.2.2.2.2.1,v17.2.2.2.2.2.2.2.2.2.2.2.2.2.1,v17.2.2.2.2.2.2.2.2.2.2.2.2.2.2.1,v17.2.2.2.2.2.2.2.2.2.2.2.2.2.2.2.1,v17.2.2.2.2.2.2.2.2.2.2.2.2.2.2.2.2.1,v17.2.2.2.2.2.2.2.2.2.2.2.2.2.2.2.2.2.1,v17.2.2.2.2.2.2.2.2.2.2.2.2.2.2.2.2.2.2.1,v17.2.2.2.2.2.2.2.2.2.2.2.2.2.2.2.2.2.2.2.1,v17.2.2.2.2.2.2.2.2.2.2.2.2.2.2.2.2.2.2.2.2.1,v17.2.2.2.2.2.2.2.2.2.2.2.2.2.2.2.2.2.2.2.2.2.1,v17.2.2.2.2.2.2.2.2.2.2.2.2.2.2.2.2.2.2.2.2.2.2.1,v17.2.2.2.2.2.2.2.2.2.2.2.2.2.2.2.2.2.2.2.2.2.2.2.1,v17.2.2.2.2.2.2.2.2.2.2.2.2.2.2.2.2.2.2.2.2.2.2.2.2.1,v17.2.2.2.2.2.2.2.2.2.2.2.2.2.2.2.2.2.2.2.2.2.2.2.2.2.1,v17.2.2.2.2.2.2.2.2.2.2.2.2.2.2.2.2.2.2.2.2.2.2.2.2.2.2.1,v17.2.2.2.2.2.2.2.2.2.2.2.2.2.2.2.2.2.2.2.2.2.2.2.2.2.2.2.1,v17.2.2.2.2.2.2.2.2.2.2.2.2.2.2.2.2.2.2.2.2.2.2.2.2.2.2.2.2.1,v17.2.2.2.2.2.2.2.2.2.2.2.2.2.2.2.2.2.2.2.2.2.2.2.2.2.2.2.2.2.1,v17.2.2.2.2.2.2.2.2.2.2.2.2.2.2.2.2.2.2.2.2.2.2.2.2.2.2.2.2.2.2.1,v17.2.2.2.2.2.2.2.2.2.2.2.2.2.2.2.2.2.2.2.2.2.2.2.2.2.2.2.2.2.2.2.1,v17.2.2.2.2.2.2.2.2.2.2.2.2.2.2.2.2.2.2.2.2.2.2.2.2.2.2.2.2.2.2.2.2.1,v17.2.2.2.2.2.2.2.2.2.2.2.2.2.2.2.2.2.2.2.2.2.2.2.2.2.2.2.2.2.2.2.2.2.1,()))) fun v19=>
  aP (β:=(bU×Bool×Unit)) (γ:=(Int×Int×Int×Int×Int×(List UInt8)×Int×Int×(List UInt8)×Int×Int×Int×Int×Int×Int×Int×Int×Int×(List UInt8)×Int×Int×(List UInt8)×Int×Int×Int×Int×(List (List UInt8))×Bool×Unit)) (
   bif v19.2.2.2.2.2.2.2.2.2.2.2.2.2.2.2.2.2.2.2.2.2.2.2.2.2.2.2.2.2.2.2.1 then
    Option.bind (gI (v19.2.2.2.2.2.2.2.2.2.2.2.2.2.2.2.2.2.2.2.2.2.2.2.2.2.2.2.2.2.2.2.2.1,v19.2.2.2.2.2.2.2.2.2.2.2.2.2.2.2.2.2.2.2.2.2.2.2.2.2.2.2.2.2.2.2.2.2.1,())) fun r20=>
    some (Sum.inr (v19.1,v19.2.1,v19.2.2.1,v19.2.2.2.1,v19.2.2.2.2.1,v19.2.2.2.2.2.1,v19.2.2.2.2.2.2.1,v19.2.2.2.2.2.2.2.1,v19.2.2.2.2.2.2.2.2.1,v19.2.2.2.2.2.2.2.2.2.1,v19.2.2.2.2.2.2.2.2.2.2.1,v19.2.2.2.2.2.2.2.2.2.2.2.1,v19.2.2.2.2.2.2.2.2.2.2.2.2.1,v19.2.2.2.2.2.2.2.2.2.2.2.2.2.1,v19.2.2.2.2.2.2.2.2.2.2.2.2.2.2.1,v19.2.2.2.2.2.2.2.2.2.2.2.2.2.2.2.1,v19.2.2.2.2.2.2.2.2.2.2.2.2.2.2.2.2.1,v19.2.2.2.2.2.2.2.2.2.2.2.2.2.2.2.2.2.1,v19.2.2.2.2.2.2.2.2.2.2.2.2.2.2.2.2.2.2.1,v19.2.2.2.2.2.2.2.2.2.2.2.2.2.2.2.2.2.2.2.1,v19.2.2.2.2.2.2.2.2.2.2.2.2.2.2.2.2.2.2.2.2.1,v19.2.2.2.2.2.2.2.2.2.2.2.2.2.2.2.2.2.2.2.2.2.1,v19.2.2.2.2.2.2.2.2.2.2.2.2.2.2.2.2.2.2.2.2.2.2.1,v19.2.2.2.2.2.2.2.2.2.2.2.2.2.2.2.2.2.2.2.2.2.2.2.1,v19.2.2.2.2.2.2.2.2.2.2.2.2.2.2.2.2.2.2.2.2.2.2.2.2.1,r20.1,r20.2.1.1,r20.2.1.2.1,()))
   else
    some (Sum.inr (v19.1,v19.2.1,v19.2.2.1,v19.2.2.2.1,v19.2.2.2.2.1,v19.2.2.2.2.2.1,v19.2.2.2.2.2.2.1,v19.2.2.2.2.2.2.2.1,v19.2.2.2.2.2.2.2.2.1,v19.2.2.2.2.2.2.2.2.2.1,v19.2.2.2.2.2.2.2.2.2.2.1,v19.2.2.2.2.2.2.2.2.2.2.2.1,v19.2.2.2.2.2.2.2.2.2.2.2.2.1,v19.2.2.2.2.2.2.2.2.2.2.2.2.2.1,v19.2.2.2.2.2.2.2.2.2.2.2.2.2.2.1,v19.2.2.2.2.2.2.2.2.2.2.2.2.2.2.2.1,v19.2.2.2.2.2.2.2.2.2.2.2.2.2.2.2.2.1,v19.2.2.2.2.2.2.2.2.2.2.2.2.2.2.2.2.2.1,v19.2.2.2.2.2.2.2.2.2.2.2.2.2.2.2.2.2.2.1,v19.2.2.2.2.2.2.2.2.2.2.2.2.2.2.2.2.2.2.2.1,v19.2.2.2.2.2.2.2.2.2.2.2.2.2.2.2.2.2.2.2.2.1,v19.2.2.2.2.2.2.2.2.2.2.2.2.2.2.2.2.2.2.2.2.2.1,v19.2.2.2.2.2.2.2.2.2.2.2.2.2.2.2.2.2.2.2.2.2.2.1,v19.2.2.2.2.2.2.2.2.2.2.2.2.2.2.2.2.2.2.2.2.2.2.2.1,v19.2.2.2.2.2.2.2.2.2.2.2.2.2.2.2.2.2.2.2.2.2.2.2.2.1,v19.2.2.2.2.2.2.2.2.2.2.2.2.2.2.2.2.2.2.2.2.2.2.2.2.2.1,v19.2.2.2.2.2.2.2.2.2.2.2.2.2.2.2.2.2.2.2.2.2.2.2.2.2.2.2.2.2.2.2.2.1,v19.2.2.2.2.2.2.2.2.2.2.2.2.2.2.2.2.2.2.2.2.2.2.2.2.2.2.2.2.2.2.2.2.2.1,()))) fun v21=>
  bif !v21.2.2.2.2.2.2.2.2.2.2.2.2.2.2.2.2.2.2.2.2.2.2.2.2.2.2.2.1 then
   some ((v21.2.2.2.2.2.2.2.2.2.2.2.2.2.1,v21.2.2.2.2.2.2.2.2.2.2.2.2.2.2.1,v21.2.2.2.2.2.2.2.2.2.2.2.2.2.2.2.1,v21.2.2.2.2.2.2.2.2.2.2.2.2.2.2.2.2.1,v21.2.2.2.2.2.2.2.2.2.2.2.2.2.2.2.2.2.1,v21.2.2.2.2.2.2.2.2.2.2.2.2.2.2.2.2.2.2.1,(v21.2.2.2.2.2.2.2.2.2.2.2.2.2.2.2.2.2.2.2.1,v21.2.2.2.2.2.2.2.2.2.2.2.2.2.2.2.2.2.2.2.2.1),v21.2.2.2.2.2.2.2.2.2.2.2.2.2.2.2.2.2.2.2.2.2.1,(v21.2.2.2.2.2.2.2.2.2.2.2.2.2.2.2.2.2.2.2.2.2.2.1,v21.2.2.2.2.2.2.2.2.2.2.2.2.2.2.2.2.2.2.2.2.2.2.2.1),v21.2.2.2.2.2.2.2.2.2.2.2.2.2.2.2.2.2.2.2.2.2.2.2.2.1,v21.2.2.2.2.2.2.2.2.2.2.2.2.2.2.2.2.2.2.2.2.2.2.2.2.2.1),((v21.2.2.2.2.2.2.2.2.2.2.2.2.2.2.2.2.2.2.2.2.2.2.2.2.2.2.1.length:Int))==0,())
  else
   some ((v21.2.2.2.2.2.2.2.2.2.2.2.2.2.1,v21.2.2.2.2.2.2.2.2.2.2.2.2.2.2.1,v21.2.2.2.2.2.2.2.2.2.2.2.2.2.2.2.1,v21.2.2.2.2.2.2.2.2.2.2.2.2.2.2.2.2.1,v21.2.2.2.2.2.2.2.2.2.2.2.2.2.2.2.2.2.1,v21.2.2.2.2.2.2.2.2.2.2.2.2.2.2.2.2.2.2.1,(v21.2.2.2.2.2.2.2.2.2.2.2.2.2.2.2.2.2.2.2.1,v21.2.2.2.2.2.2.2.2.2.2.2.2.2.2.2.2.2.2.2.2.1),v21.2.2.2.2.2.2.2.2.2.2.2.2.2.2.2.2.2.2.2.2.2.1,(v21.2.2.2.2.2.2.2.2.2.2.2.2.2.2.2.2.2.2.2.2.2.2.1,v21.2.2.2.2.2.2.2.2.2.2.2.2.2.2.2.2.2.2.2.2.2.2.2.1),v21.2.2.2.2.2.2.2.2.2.2.2.2.2.2.2.2.2.2.2.2.2.2.2.2.1,v21.2.2.2.2.2.2.2.2.2.2.2.2.2.2.2.2.2.2.2.2.2.2.2.2.2.1),false,())
abbrev Ch:Type:=(List (List UInt8))×Bool×(List bU)×(List (List UInt8))×Int×Int×Unit
abbrev Cg:Type:=(((List bU)×Int×Int×Unit) ⊕ ((List bU)×Unit))
def UI (x1:Ch) (again:Ch->Option Cg):Option Cg:=
 bif decide (x1.2.2.2.2.2.1<x1.2.2.2.2.1) then
  Option.bind (idx x1.2.2.2.1 x1.2.2.2.2.2.1) fun y2=>
  Option.bind (Ki y2) fun r3=>
  Option.bind (
   bif !r3.2.1 then
    some (true,())
   else
    bif !x1.2.1 then
     some (x1.2.2.2.2.2.1==(w64 (((x1.1.length:Int)) - 1)),())
    else
     some (false,())) fun v4=>
  bif v4.1 then
   some (Sum.inl ([],w64 (x1.2.2.2.2.2.1+1),10,()))
  else
   chk (decide (((x1.2.2.1.length)+1)*120<=140737488355328)&&decide ((x1.2.2.1.length)+1<=maxLen)) <|
   again (x1.1,x1.2.1,x1.2.2.1++[r3.1],x1.2.2.2.1,x1.2.2.2.2.1,w64 (x1.2.2.2.2.2.1+1),())
 else
  some (Sum.inr (x1.2.2.1,()))
def SB (a0:Int):Option (pM×Unit):=
 bif a0==1 then
  some ((true,true,true,true,false),())
 else
  aP (β:=(pM×Unit)) (γ:=(Int×Bool×Bool×Bool×Bool×Bool×Bool×Unit)) (
   bif a0==2 then
    some (Sum.inr (a0,a0==2,false,false,false,false,false,()))
   else
    bif a0==9 then
     some (Sum.inr (a0,a0==9,false,false,false,false,false,()))
    else
     bif a0==10 then
      some (Sum.inr (a0,a0==10,false,false,false,false,false,()))
     else
      some (Sum.inr (a0,a0==11,false,false,false,false,false,()))) fun v1=>
  bif v1.2.1 then
   some ((true,false,false,false,false),())
  else
   bif v1.1==3 then
    some ((false,false,true,false,false),())
   else
    bif v1.1==4 then
     some ((false,true,false,false,false),())
    else
     bif v1.1==7 then
      some ((true,false,true,false,false),())
     else
      some ((false,false,false,false,true),())
end
end Go.Md
set_option linter.all false
namespace Go.Md
open Go.Dn
noncomputable section
abbrev xQ:Type:=(List UInt8)×Int×Int×Int×Unit
abbrev xP:Type:=((Int×Bool×Unit) ⊕ (Int×Unit))
def N4 (x1:xQ) (again:xQ->Option xP):Option xP:=
 bif decide (x1.2.2.2.1<x1.2.2.1) then
  Option.bind (eN x1.1 x1.2.2.2.1) fun c2=>
  bif decide ((c2.toNat:Int)<48) then
   some (Sum.inl (0,false,()))
  else
   Option.bind (eN x1.1 x1.2.2.2.1) fun c3=>
   bif decide ((c3.toNat:Int)>57) then
    some (Sum.inl (0,false,()))
   else
    Option.bind (eN x1.1 x1.2.2.2.1) fun c4=>
    let n5:Int:=w64 ((w64 (10*x1.2.1))+(w64 (wu8 ((c4.toNat:Int) - 48))))
    again (x1.1,n5,x1.2.2.1,w64 (x1.2.2.2.1+1),())
 else
  some (Sum.inr (x1.2.1,()))
def SA (a0:List UInt8):Option (Int×Bool×Unit):=
 Option.bind (
  bif a0==[] then
   some (true,())
  else
   bif decide (((List.length a0:Int))>16) then
    some (true,())
   else
    bif decide (((List.length a0:Int))>1) then
     Option.bind (eN a0 0) fun c1=>
     some ((c1.toNat:Int)==48,())
    else
     some (false,())) fun v2=>
 bif v2.1 then
  some (0,false,())
 else
  aP (β:=(Int×Bool×Unit)) (γ:=(Int×Unit)) (
   iter (X:=xQ) (β:=xP) (List.length a0+(Int.natAbs (0:Int)+(Int.natAbs ((List.length a0:Int))+(Int.natAbs (0:Int)+2)))) (a0,0,(List.length a0:Int),0,()) (N4)) fun v8=>
  some (v8.1,true,())
def gx (a0:Bool×Unit) (a1:List UInt8):Option (Int×(Bool×Unit)×Unit):=
 Option.bind (SA a1) fun r1=>
 bif a0.1 then
  some (r1.1,(r1.2.1,()),())
 else
  some (r1.1,(false,()),())
abbrev uu:Type:=(List UInt8)×Int×Int×Int×Unit
abbrev ur:Type:=((Int×Bool×Unit) ⊕ (Int×Unit))
def Kt (x1:uu) (again:uu->Option ur):Option ur:=
 bif decide (x1.2.2.2.1<x1.2.2.1) then
  Option.bind (eN x1.1 x1.2.2.2.1) fun c2=>
  let n3:Int:=w64 ((w64 (10*x1.2.1))+(w64 (wu8 ((c2.toNat:Int) - 48))))
  bif decide (n3>1000000000000000) then
   some (Sum.inl (0,false,()))
  else
   again (x1.1,n3,x1.2.2.1,w64 (x1.2.2.2.1+1),())
 else
  some (Sum.inr (x1.2.1,()))
def Pf (a0:List UInt8):Option (Int×Bool×Unit):=
 aP (β:=(Int×Bool×Unit)) (γ:=(Int×Unit)) (
  iter (X:=uu) (β:=ur) (List.length a0+(Int.natAbs (0:Int)+(Int.natAbs ((List.length a0:Int))+(Int.natAbs (0:Int)+2)))) (a0,0,(List.length a0:Int),0,()) (Kt)) fun v4=>
 some (v4.1,true,())
def Pe (a0:List UInt8):Option (ah×Int×Unit):=
 bif decide (((List.length a0:Int))>40) then
  some ((0,0),10,())
 else
  Option.bind (iq a0 [45]) fun r1=>
  Option.bind (qu r1.1 [46]) fun r2=>
  Option.bind (
   Option.bind (eL r2.1) fun r3=>
   bif !r3.1 then
    some (true,())
   else
    bif decide (((r2.1.length:Int))>1) then
     Option.bind (eN r2.1 0) fun c4=>
     bif (c4.toNat:Int)==48 then
      some (true,())
     else
      bif r2.2.2.1 then
       Option.bind (eL r2.2.1) fun r5=>
       bif !r5.1 then
        some (true,())
       else
        some (decide (((r2.2.1.length:Int))>9),())
      else
       some (decide (((r2.2.1.length:Int))>9),())
    else
     bif r2.2.2.1 then
      Option.bind (eL r2.2.1) fun r6=>
      bif !r6.1 then
       some (true,())
      else
       some (decide (((r2.2.1.length:Int))>9),())
     else
      some (decide (((r2.2.1.length:Int))>9),())) fun v7=>
  bif v7.1 then
   some ((0,0),10,())
  else
   Option.bind (
    bif r1.2.1 then
     chk (decide (r2.1.length+r2.2.1.length<=maxLen)) <|
     Option.bind (dV (r2.1++r2.2.1) [48]) fun r8=>
     some (r8.1==[],())
    else
     some (false,())) fun v9=>
   bif v9.1 then
    some ((0,0),10,())
   else
    chk (decide (r2.1.length+r2.2.1.length<=maxLen)) <|
    Option.bind (Pf (r2.1++r2.2.1)) fun r10=>
    bif !r10.2.1 then
     some ((0,0),1,())
    else
     bif r1.2.1 then
      some ((w64 (0 - r10.1),(r2.2.1.length:Int)),0,())
     else
      some ((r10.1,(r2.2.1.length:Int)),0,())
def kg (a0:Bool×Unit) (a1:List UInt8):Option (ah×(Bool×Unit)×Unit):=
 Option.bind (Pe a1) fun r1=>
 bif a0.1 then
  some (r1.1,(r1.2.1==0,()),())
 else
  some (r1.1,(false,()),())
def Vi (a0:List UInt8):Option (bU×Bool×Unit):=
 Option.bind (strings_Split a0 [32]) fun r1=>
 Option.bind (
  bif decide (((r1.1.length:Int))<6) then
   some (true,())
  else
   chk (decide (0<=(1:Int))&&decide ((1:Int)<(r1.1.length:Int))) <|
   Option.bind (r1.1[1]?) fun y2=>
   bif !(y2==[98,117,121,101,114]) then
    chk (decide (0<=(1:Int))&&decide ((1:Int)<(r1.1.length:Int))) <|
    Option.bind (r1.1[1]?) fun y3=>
    bif !(y3==[115,101,108,108,101,114]) then
     some (true,())
    else
     Option.bind (qm r1.1 []) fun r4=>
     some (r4.1,())
   else
    Option.bind (qm r1.1 []) fun r5=>
    some (r5.1,())) fun v6=>
 bif v6.1 then
  some ((0,0,0,0,0,[],(0,0),[],(0,0),0,0),false,())
 else
  chk (decide (0<=(0:Int))&&decide ((0:Int)<(r1.1.length:Int))) <|
  Option.bind (r1.1[0]?) fun y7=>
  chk (decide (0<=(2:Int))&&decide ((2:Int)<(r1.1.length:Int))) <|
  Option.bind (r1.1[2]?) fun y8=>
  chk (decide (0<=(3:Int))&&decide ((3:Int)<(r1.1.length:Int))) <|
  Option.bind (r1.1[3]?) fun y9=>
  chk (decide (0<=(4:Int))&&decide ((4:Int)<(r1.1.length:Int))) <|
  Option.bind (r1.1[4]?) fun y10=>
  Option.bind (gx (true,()) y7) fun r11=>
  Option.bind (gx (r11.2.1.1,()) y8) fun r12=>
  Option.bind (strings_Split [97,100,100,32,113,117,97,110,116,105,116,121,32,100,117,101,32,112,114,105,99,101,32,121,101,115,32,110,111,32,111,102,102,101,114,32,116,97,107,101,32,115,104,105,112,32,114,101,99,101,105,118,101,32,114,101,116,117,114,110] [32]) fun r13=>
  Option.bind (nu r13.1 y9) fun r14=>
  Option.bind (gx (r12.2.1.1,()) y10) fun r15=>
  chk (decide (0<=(1:Int))&&decide ((1:Int)<(r1.1.length:Int))) <|
  Option.bind (r1.1[1]?) fun y16=>
  aP (β:=(bU×Bool×Unit)) (γ:=(Int×Int×Int×Int×Int×(List UInt8)×Int×Int×(List UInt8)×Int×Int×Int×Int×Bool×Int×Int×Int×Int×Int×(List UInt8)×Int×Int×(List UInt8)×Int×Int×Int×Int×(List (List UInt8))×Unit)) (
   bif y16==[115,101,108,108,101,114] then
    some (Sum.inr (0,0,0,0,0,[],0,0,[],0,0,0,0,r15.2.1.1,r11.1,2,r12.1,w64 (r14.1+1),r15.1,[],0,0,[],0,0,0,0,r1.1,()))
   else
    some (Sum.inr (0,0,0,0,0,[],0,0,[],0,0,0,0,r15.2.1.1,r11.1,1,r12.1,w64 (r14.1+1),r15.1,[],0,0,[],0,0,0,0,r1.1,()))) fun v17=>
  bif v17.2.2.2.2.2.2.2.2.2.2.2.2.2.2.2.2.2.1==0 then
   some ((0,0,0,0,0,[],(0,0),[],(0,0),0,0),false,())
  else
   Option.bind (SB v17.2.2.2.2.2.2.2.2.2.2.2.2.2.2.2.2.2.1) fun r18=>
   chk (decide (0<=(5:Int))&&decide ((5:Int)<=((v17.2.2.2.2.2.2.2.2.2.2.2.2.2.2.2.2.2.2.2.2.2.2.2.2.2.2.2.1.length:Int)))&&decide (((v17.2.2.2.2.2.2.2.2.2.2.2.2.2.2.2.2.2.2.2.2.2.2.2.2.2.2.2.1.length:Int))<=(v17.2.2.2.2.2.2.2.2.2.2.2.2.2.2.2.2.2.2.2.2.2.2.2.2.2.2.2.1.length:Int))) <|
   Option.bind (
    bif r18.1.2.2.2.1 then
     some (((List.length (List.drop 5 (List.take (Int.toNat ((v17.2.2.2.2.2.2.2.2.2.2.2.2.2.2.2.2.2.2.2.2.2.2.2.2.2.2.2.1.length:Int))) v17.2.2.2.2.2.2.2.2.2.2.2.2.2.2.2.2.2.2.2.2.2.2.2.2.2.2.2.1)):Int))==5,())
    else
     some (false,())) fun v19=>
   bif v19.1 then
    Option.bind (idx (List.drop 5 (List.take (Int.toNat ((v17.2.2.2.2.2.2.2.2.2.2.2.2.2.2.2.2.2.2.2.2.2.2.2.2.2.2.2.1.length:Int))) v17.2.2.2.2.2.2.2.2.2.2.2.2.2.2.2.2.2.2.2.2.2.2.2.2.2.2.2.1)) 0) fun y20=>
    Option.bind (idx (List.drop 5 (List.take (Int.toNat ((v17.2.2.2.2.2.2.2.2.2.2.2.2.2.2.2.2.2.2.2.2.2.2.2.2.2.2.2.1.length:Int))) v17.2.2.2.2.2.2.2.2.2.2.2.2.2.2.2.2.2.2.2.2.2.2.2.2.2.2.2.1)) 1) fun y21=>
    Option.bind (idx (List.drop 5 (List.take (Int.toNat ((v17.2.2.2.2.2.2.2.2.2.2.2.2.2.2.2.2.2.2.2.2.2.2.2.2.2.2.2.1.length:Int))) v17.2.2.2.2.2.2.2.2.2.2.2.2.2.2.2.2.2.2.2.2.2.2.2.2.2.2.2.1)) 2) fun y22=>
    Option.bind (idx (List.drop 5 (List.take (Int.toNat ((v17.2.2.2.2.2.2.2.2.2.2.2.2.2.2.2.2.2.2.2.2.2.2.2.2.2.2.2.1.length:Int))) v17.2.2.2.2.2.2.2.2.2.2.2.2.2.2.2.2.2.2.2.2.2.2.2.2.2.2.2.1)) 3) fun y23=>
    Option.bind (idx (List.drop 5 (List.take (Int.toNat ((v17.2.2.2.2.2.2.2.2.2.2.2.2.2.2.2.2.2.2.2.2.2.2.2.2.2.2.2.1.length:Int))) v17.2.2.2.2.2.2.2.2.2.2.2.2.2.2.2.2.2.2.2.2.2.2.2.2.2.2.2.1)) 4) fun y24=>
    Option.bind (kg (v17.2.2.2.2.2.2.2.2.2.2.2.2.2.1,()) y21) fun r25=>
    Option.bind (kg (r25.2.1.1,()) y23) fun r26=>
    Option.bind (gx (r26.2.1.1,()) y24) fun r27=>
    some ((v17.2.2.2.2.2.2.2.2.2.2.2.2.2.2.1,v17.2.2.2.2.2.2.2.2.2.2.2.2.2.2.2.1,v17.2.2.2.2.2.2.2.2.2.2.2.2.2.2.2.2.1,v17.2.2.2.2.2.2.2.2.2.2.2.2.2.2.2.2.2.1,v17.2.2.2.2.2.2.2.2.2.2.2.2.2.2.2.2.2.2.1,y20,r25.1,y22,r26.1,r27.1,v17.2.2.2.2.2.2.2.2.2.2.2.2.2.2.2.2.2.2.2.2.2.2.2.2.2.2.1),r27.2.1.1,())
   else
    bif r18.1.2.2.2.1 then
     some ((v17.2.2.2.2.2.2.2.2.2.2.2.2.2.2.1,v17.2.2.2.2.2.2.2.2.2.2.2.2.2.2.2.1,v17.2.2.2.2.2.2.2.2.2.2.2.2.2.2.2.2.1,v17.2.2.2.2.2.2.2.2.2.2.2.2.2.2.2.2.2.1,v17.2.2.2.2.2.2.2.2.2.2.2.2.2.2.2.2.2.2.1,v17.2.2.2.2.2.2.2.2.2.2.2.2.2.2.2.2.2.2.2.1,(v17.2.2.2.2.2.2.2.2.2.2.2.2.2.2.2.2.2.2.2.2.1,v17.2.2.2.2.2.2.2.2.2.2.2.2.2.2.2.2.2.2.2.2.2.1),v17.2.2.2.2.2.2.2.2.2.2.2.2.2.2.2.2.2.2.2.2.2.2.1,(v17.2.2.2.2.2.2.2.2.2.2.2.2.2.2.2.2.2.2.2.2.2.2.2.1,v17.2.2.2.2.2.2.2.2.2.2.2.2.2.2.2.2.2.2.2.2.2.2.2.2.1),v17.2.2.2.2.2.2.2.2.2.2.2.2.2.2.2.2.2.2.2.2.2.2.2.2.2.1,v17.2.2.2.2.2.2.2.2.2.2.2.2.2.2.2.2.2.2.2.2.2.2.2.2.2.2.1),false,())
    else
     Option.bind (
      bif r18.1.1 then
       bif r18.1.2.2.1 then
        some (((List.length (List.drop 5 (List.take (Int.toNat ((v17.2.2.2.2.2.2.2.2.2.2.2.2.2.2.2.2.2.2.2.2.2.2.2.2.2.2.2.1.length:Int))) v17.2.2.2.2.2.2.2.2.2.2.2.2.2.2.2.2.2.2.2.2.2.2.2.2.2.2.2.1)):Int))==2,())
       else
        some (false,())
      else
       some (false,())) fun v28=>
     bif v28.1 then
      Option.bind (idx (List.drop 5 (List.take (Int.toNat ((v17.2.2.2.2.2.2.2.2.2.2.2.2.2.2.2.2.2.2.2.2.2.2.2.2.2.2.2.1.length:Int))) v17.2.2.2.2.2.2.2.2.2.2.2.2.2.2.2.2.2.2.2.2.2.2.2.2.2.2.2.1)) 0) fun y29=>
      Option.bind (idx (List.drop 5 (List.take (Int.toNat ((v17.2.2.2.2.2.2.2.2.2.2.2.2.2.2.2.2.2.2.2.2.2.2.2.2.2.2.2.1.length:Int))) v17.2.2.2.2.2.2.2.2.2.2.2.2.2.2.2.2.2.2.2.2.2.2.2.2.2.2.2.1)) 1) fun y30=>
      Option.bind (kg (v17.2.2.2.2.2.2.2.2.2.2.2.2.2.1,()) y29) fun r31=>
      Option.bind (gx (r31.2.1.1,()) y30) fun r32=>
      some ((v17.2.2.2.2.2.2.2.2.2.2.2.2.2.2.1,v17.2.2.2.2.2.2.2.2.2.2.2.2.2.2.2.1,v17.2.2.2.2.2.2.2.2.2.2.2.2.2.2.2.2.1,v17.2.2.2.2.2.2.2.2.2.2.2.2.2.2.2.2.2.1,v17.2.2.2.2.2.2.2.2.2.2.2.2.2.2.2.2.2.2.1,v17.2.2.2.2.2.2.2.2.2.2.2.2.2.2.2.2.2.2.2.1,r31.1,v17.2.2.2.2.2.2.2.2.2.2.2.2.2.2.2.2.2.2.2.2.2.2.1,(v17.2.2.2.2.2.2.2.2.2.2.2.2.2.2.2.2.2.2.2.2.2.2.2.1,v17.2.2.2.2.2.2.2.2.2.2.2.2.2.2.2.2.2.2.2.2.2.2.2.2.1),r32.1,v17.2.2.2.2.2.2.2.2.2.2.2.2.2.2.2.2.2.2.2.2.2.2.2.2.2.2.1),r32.2.1.1,())
     else
      Option.bind (
       bif ((List.length (List.drop 5 (List.take (Int.toNat ((v17.2.2.2.2.2.2.2.2.2.2.2.2.2.2.2.2.2.2.2.2.2.2.2.2.2.2.2.1.length:Int))) v17.2.2.2.2.2.2.2.2.2.2.2.2.2.2.2.2.2.2.2.2.2.2.2.2.2.2.2.1)):Int)) != 1 then
        some (true,())
       else
        bif r18.1.1 then
         some (r18.1.2.2.1,())
        else
         some (false,())) fun v33=>
      bif v33.1 then
       some ((v17.2.2.2.2.2.2.2.2.2.2.2.2.2.2.1,v17.2.2.2.2.2.2.2.2.2.2.2.2.2.2.2.1,v17.2.2.2.2.2.2.2.2.2.2.2.2.2.2.2.2.1,v17.2.2.2.2.2.2.2.2.2.2.2.2.2.2.2.2.2.1,v17.2.2.2.2.2.2.2.2.2.2.2.2.2.2.2.2.2.2.1,v17.2.2.2.2.2.2.2.2.2.2.2.2.2.2.2.2.2.2.2.1,(v17.2.2.2.2.2.2.2.2.2.2.2.2.2.2.2.2.2.2.2.2.1,v17.2.2.2.2.2.2.2.2.2.2.2.2.2.2.2.2.2.2.2.2.2.1),v17.2.2.2.2.2.2.2.2.2.2.2.2.2.2.2.2.2.2.2.2.2.2.1,(v17.2.2.2.2.2.2.2.2.2.2.2.2.2.2.2.2.2.2.2.2.2.2.2.1,v17.2.2.2.2.2.2.2.2.2.2.2.2.2.2.2.2.2.2.2.2.2.2.2.2.1),v17.2.2.2.2.2.2.2.2.2.2.2.2.2.2.2.2.2.2.2.2.2.2.2.2.2.1,v17.2.2.2.2.2.2.2.2.2.2.2.2.2.2.2.2.2.2.2.2.2.2.2.2.2.2.1),false,())
      else
       bif r18.1.1 then
        Option.bind (idx (List.drop 5 (List.take (Int.toNat ((v17.2.2.2.2.2.2.2.2.2.2.2.2.2.2.2.2.2.2.2.2.2.2.2.2.2.2.2.1.length:Int))) v17.2.2.2.2.2.2.2.2.2.2.2.2.2.2.2.2.2.2.2.2.2.2.2.2.2.2.2.1)) 0) fun y34=>
        Option.bind (kg (v17.2.2.2.2.2.2.2.2.2.2.2.2.2.1,()) y34) fun r35=>
        some ((v17.2.2.2.2.2.2.2.2.2.2.2.2.2.2.1,v17.2.2.2.2.2.2.2.2.2.2.2.2.2.2.2.1,v17.2.2.2.2.2.2.2.2.2.2.2.2.2.2.2.2.1,v17.2.2.2.2.2.2.2.2.2.2.2.2.2.2.2.2.2.1,v17.2.2.2.2.2.2.2.2.2.2.2.2.2.2.2.2.2.2.1,v17.2.2.2.2.2.2.2.2.2.2.2.2.2.2.2.2.2.2.2.1,r35.1,v17.2.2.2.2.2.2.2.2.2.2.2.2.2.2.2.2.2.2.2.2.2.2.1,(v17.2.2.2.2.2.2.2.2.2.2.2.2.2.2.2.2.2.2.2.2.2.2.2.1,v17.2.2.2.2.2.2.2.2.2.2.2.2.2.2.2.2.2.2.2.2.2.2.2.2.1),v17.2.2.2.2.2.2.2.2.2.2.2.2.2.2.2.2.2.2.2.2.2.2.2.2.2.1,v17.2.2.2.2.2.2.2.2.2.2.2.2.2.2.2.2.2.2.2.2.2.2.2.2.2.2.1),r35.2.1.1,())
       else
        bif r18.1.2.1 then
         Option.bind (idx (List.drop 5 (List.take (Int.toNat ((v17.2.2.2.2.2.2.2.2.2.2.2.2.2.2.2.2.2.2.2.2.2.2.2.2.2.2.2.1.length:Int))) v17.2.2.2.2.2.2.2.2.2.2.2.2.2.2.2.2.2.2.2.2.2.2.2.2.2.2.2.1)) 0) fun y36=>
         Option.bind (kg (v17.2.2.2.2.2.2.2.2.2.2.2.2.2.1,()) y36) fun r37=>
         some ((v17.2.2.2.2.2.2.2.2.2.2.2.2.2.2.1,v17.2.2.2.2.2.2.2.2.2.2.2.2.2.2.2.1,v17.2.2.2.2.2.2.2.2.2.2.2.2.2.2.2.2.1,v17.2.2.2.2.2.2.2.2.2.2.2.2.2.2.2.2.2.1,v17.2.2.2.2.2.2.2.2.2.2.2.2.2.2.2.2.2.2.1,v17.2.2.2.2.2.2.2.2.2.2.2.2.2.2.2.2.2.2.2.1,(v17.2.2.2.2.2.2.2.2.2.2.2.2.2.2.2.2.2.2.2.2.1,v17.2.2.2.2.2.2.2.2.2.2.2.2.2.2.2.2.2.2.2.2.2.1),v17.2.2.2.2.2.2.2.2.2.2.2.2.2.2.2.2.2.2.2.2.2.2.1,r37.1,v17.2.2.2.2.2.2.2.2.2.2.2.2.2.2.2.2.2.2.2.2.2.2.2.2.2.1,v17.2.2.2.2.2.2.2.2.2.2.2.2.2.2.2.2.2.2.2.2.2.2.2.2.2.2.1),r37.2.1.1,())
        else
         bif r18.1.2.2.1 then
          Option.bind (idx (List.drop 5 (List.take (Int.toNat ((v17.2.2.2.2.2.2.2.2.2.2.2.2.2.2.2.2.2.2.2.2.2.2.2.2.2.2.2.1.length:Int))) v17.2.2.2.2.2.2.2.2.2.2.2.2.2.2.2.2.2.2.2.2.2.2.2.2.2.2.2.1)) 0) fun y38=>
          Option.bind (gx (v17.2.2.2.2.2.2.2.2.2.2.2.2.2.1,()) y38) fun r39=>
          some ((v17.2.2.2.2.2.2.2.2.2.2.2.2.2.2.1,v17.2.2.2.2.2.2.2.2.2.2.2.2.2.2.2.1,v17.2.2.2.2.2.2.2.2.2.2.2.2.2.2.2.2.1,v17.2.2.2.2.2.2.2.2.2.2.2.2.2.2.2.2.2.1,v17.2.2.2.2.2.2.2.2.2.2.2.2.2.2.2.2.2.2.1,v17.2.2.2.2.2.2.2.2.2.2.2.2.2.2.2.2.2.2.2.1,(v17.2.2.2.2.2.2.2.2.2.2.2.2.2.2.2.2.2.2.2.2.1,v17.2.2.2.2.2.2.2.2.2.2.2.2.2.2.2.2.2.2.2.2.2.1),v17.2.2.2.2.2.2.2.2.2.2.2.2.2.2.2.2.2.2.2.2.2.2.1,(v17.2.2.2.2.2.2.2.2.2.2.2.2.2.2.2.2.2.2.2.2.2.2.2.1,v17.2.2.2.2.2.2.2.2.2.2.2.2.2.2.2.2.2.2.2.2.2.2.2.2.1),r39.1,v17.2.2.2.2.2.2.2.2.2.2.2.2.2.2.2.2.2.2.2.2.2.2.2.2.2.2.1),r39.2.1.1,())
         else
          Option.bind (idx (List.drop 5 (List.take (Int.toNat ((v17.2.2.2.2.2.2.2.2.2.2.2.2.2.2.2.2.2.2.2.2.2.2.2.2.2.2.2.1.length:Int))) v17.2.2.2.2.2.2.2.2.2.2.2.2.2.2.2.2.2.2.2.2.2.2.2.2.2.2.2.1)) 0) fun y40=>
          Option.bind (gx (v17.2.2.2.2.2.2.2.2.2.2.2.2.2.1,()) y40) fun r41=>
          some ((v17.2.2.2.2.2.2.2.2.2.2.2.2.2.2.1,v17.2.2.2.2.2.2.2.2.2.2.2.2.2.2.2.1,v17.2.2.2.2.2.2.2.2.2.2.2.2.2.2.2.2.1,v17.2.2.2.2.2.2.2.2.2.2.2.2.2.2.2.2.2.1,v17.2.2.2.2.2.2.2.2.2.2.2.2.2.2.2.2.2.2.1,v17.2.2.2.2.2.2.2.2.2.2.2.2.2.2.2.2.2.2.2.1,(v17.2.2.2.2.2.2.2.2.2.2.2.2.2.2.2.2.2.2.2.2.1,v17.2.2.2.2.2.2.2.2.2.2.2.2.2.2.2.2.2.2.2.2.2.1),v17.2.2.2.2.2.2.2.2.2.2.2.2.2.2.2.2.2.2.2.2.2.2.1,(v17.2.2.2.2.2.2.2.2.2.2.2.2.2.2.2.2.2.2.2.2.2.2.2.1,v17.2.2.2.2.2.2.2.2.2.2.2.2.2.2.2.2.2.2.2.2.2.2.2.2.1),v17.2.2.2.2.2.2.2.2.2.2.2.2.2.2.2.2.2.2.2.2.2.2.2.2.2.1,r41.1),r41.2.1.1,())
end
end Go.Md
