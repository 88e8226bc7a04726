/-
  The plain models of the functions that the law reaches, first part. No condition.
-/
import Derived.Test.YtalfglakknbjkaaGreatDoorTd
import Derived.Lib.SlTrimSet
set_option linter.all false
namespace Go.Md
open Go.Dn
def rP (s c:List UInt8):Option (List UInt8×Unit):=
 bif decide (s.length≤9223372036854775807)&&(decide (c.length<4294967281)&&c.all fun b=>decide (b.toNat<128)) then some (Lib.trimS s c,()) else none
abbrev aZ:Ty:=(.st (.pair tI tI))
abbrev ak:Type:=Int×Int
abbrev cE:Ty:=(.st (.pair tI (.pair aZ (.slice .str))))
abbrev aP:Type:=Int×ak×(List (List UInt8))
abbrev zD:Ty:=(.st (.pair .str (.pair aZ (.pair aZ tI))))
abbrev gM:Type:=(List UInt8)×ak×ak×Int
abbrev G7:Type:=Bool×(List Int)
abbrev gI:Ty:=(.st (.pair .str (.pair tI (.pair aZ (.pair tI (.pair tI tI))))))
abbrev aY:Type:=(List UInt8)×Int×ak×Int×Int×Int
abbrev aQ:Ty:=(.st (.pair gI (.pair tI (.pair tI (.pair tI tI)))))
abbrev aq:Type:=aY×Int×Int×Int×Int
abbrev ai:Ty:=(.st (.pair .bool (.slice (.int .u32))))
abbrev aa:Type:=Bool×(List Int)
def ja (a0:List UInt8):Option (Bool×Unit):=
 bif decide (((List.length a0:Int))<1) then
  some (false,())
 else
  bif decide (((List.length a0:Int))>40) then
   some (false,())
  else
   Option.bind (Ef a0 0) fun c1=>
   bif decide ((c1.toNat:Int)<97) then
    some (false,())
   else
    Option.bind (Ef a0 0) fun c2=>
    bif decide ((c2.toNat:Int)>122) then
     some (false,())
    else
     Option.bind (rP a0 [97,98,99,100,101,102,103,104,105,106,107,108,109,110,111,112,113,114,115,116,117,118,119,120,121,122,48,49,50,51,52,53,54,55,56,57,45]) fun r3=>
     some (r3.1==[],())
def xm (a0:aY) (a1:aY):Option (Bool×Unit):=
 some (a0.1==a1.1,())
abbrev hJ:Type:=(List aY)×aY×Int×Int×Unit
abbrev ij:Type:=((Int×Unit) ⊕ Unit)
def ir (x1:hJ) (again:hJ→Option ij):Option ij:=
 match x1 with
 | (A,B,C,D,_)=>
 bif decide (D<C) then
  Option.bind (idx A D) fun y2=>
  Option.bind (xm y2 B) fun r3=>
  bif r3.1 then
   some (Sum.inl (D,()))
  else
   again (A,B,C,w64 (D+1),())
 else
  some (Sum.inr ())
def oI (a0:List aY) (a1:aY):Option (Int×Unit):=
 aS (β:=(Int×Unit)) (γ:=Unit) (
  iter (X:=hJ) (β:=ij) (List.length a0+(Int.natAbs ((List.length a0:Int))+(Int.natAbs (0:Int)+2))) (a0,a1,(List.length a0:Int),0,()) (ir)) fun _=>
 some ((-1),())
def jE (a0:List aY) (a1:aY):Option (Bool×Unit):=
 Option.bind (oI a0 a1) fun r1=>
 some (decide (r1.1≥0),())
def bV (a0:Int) (a1:Int) (a2:Int):Option (Bool×Unit):=
 bif decide (a0<a1) then
  some (true,())
 else
  some (decide (a0>a2),())
def yZ (a0:Int):Option (Bool×Unit):=
 Option.bind (bV a0 1 3652059) fun r1=>
 some (!r1.1,())
def bW (a0:ak):Option (Int×Unit):=
 Option.bind (bV a0.1 (-1000000000000000) 1000000000000000) fun r1=>
 bif r1.1 then
  some (1,())
 else
  Option.bind (bV a0.2 0 9) fun r2=>
  bif r2.1 then
   some (1,())
  else
   some (0,())
abbrev ym:Type:=Int×Int×Int×Unit
abbrev ye:Type:=((Int×Unit) ⊕ (Int×Unit))
def yl (x1:ym) (again:ym→Option ye):Option ye:=
 bif decide (x1.2.2.1<x1.2.1) then
  again (w64 (x1.1*10),x1.2.1,w64 (x1.2.2.1+1),())
 else
  some (Sum.inr (x1.1,()))
def wg (a0:Int):Option (Int×Unit):=
 aS (β:=(Int×Unit)) (γ:=(Int×Unit)) (
  iter (X:=ym) (β:=ye) (Int.natAbs (1:Int)+(Int.natAbs a0+(Int.natAbs (0:Int)+2))) (1,a0,0,()) (yl)) fun v2=>
 some (v2.1,())
def fX (a0:ak) (a1:Int):Option (Bool×Unit):=
 Option.bind (wg a0.2) fun r1=>
 Option.bind (bV a0.1 (w64 (0 - (w64 (a1*r1.1)))) (w64 (a1*r1.1))) fun r2=>
 some (!r2.1,())
def je (a0:ak):Option (Int×Unit):=
 Option.bind (bW a0) fun r1=>
 bif r1.1 != 0 then
  some (r1.1,())
 else
  bif decide (a0.1≤0) then
   some (1,())
  else
   bif decide (a0.2>4) then
    some (1,())
   else
    Option.bind (fX a0 1000000000) fun r2=>
    bif !r2.1 then
     some (1,())
    else
     some (0,())
abbrev vX:Type:=(List aY)×(List aY)×Int×Int×Unit
abbrev vi:Type:=((Int×Unit) ⊕ Unit)
def qC (x1:vX) (again:vX→Option vi):Option vi:=
 match x1 with
 | (A,B,C,D,_)=>
 bif decide (D<C) then
  Option.bind (idx B D) fun y2=>
  Option.bind (ja y2.1) fun r3=>
  bif !r3.1 then
   some (Sum.inl (5,()))
  else
   chk (decide (0≤(0:Int))&&decide ((0:Int)≤D)&&decide (D≤(A.length:Int))) <|
   Option.bind (jE (List.drop 0 (List.take (Int.toNat D) A)) y2) fun r4=>
   bif r4.1 then
    some (Sum.inl (7,()))
   else
    Option.bind (yZ y2.2.1) fun r5=>
    bif !r5.1 then
     some (Sum.inl (1,()))
    else
     bif decide (D>0) then
      Option.bind (idx A (w64 (D - 1))) fun y6=>
      bif decide (y2.2.1<y6.2.1) then
       some (Sum.inl (8,()))
      else
       Option.bind (je y2.2.2.1) fun r7=>
       bif r7.1 != 0 then
        some (Sum.inl (r7.1,()))
       else
        Option.bind (bV y2.2.2.2.1 0 10000) fun r8=>
        bif r8.1 then
         some (Sum.inl (1,()))
        else
         Option.bind (bV y2.2.2.2.2.1 0 y2.2.2.2.1) fun r9=>
         bif r9.1 then
          some (Sum.inl (1,()))
         else
          Option.bind (bV y2.2.2.2.2.2 0 1000) fun r10=>
          bif r10.1 then
           some (Sum.inl (1,()))
          else
           again (A,B,C,w64 (D+1),())
     else
      Option.bind (je y2.2.2.1) fun r11=>
      bif r11.1 != 0 then
       some (Sum.inl (r11.1,()))
      else
       Option.bind (bV y2.2.2.2.1 0 10000) fun r12=>
       bif r12.1 then
        some (Sum.inl (1,()))
       else
        Option.bind (bV y2.2.2.2.2.1 0 y2.2.2.2.1) fun r13=>
        bif r13.1 then
         some (Sum.inl (1,()))
        else
         Option.bind (bV y2.2.2.2.2.2 0 1000) fun r14=>
         bif r14.1 then
          some (Sum.inl (1,()))
         else
          again (A,B,C,w64 (D+1),())
 else
  some (Sum.inr ())
def qA (a0:List aY):Option (Int×Unit):=
 bif decide (((List.length a0:Int))>200) then
  some (2,())
 else
  aS (β:=(Int×Unit)) (γ:=Unit) (
   iter (X:=vX) (β:=vi) (List.length a0+(List.length a0+(Int.natAbs ((List.length a0:Int))+(Int.natAbs (0:Int)+2)))) (a0,a0,(List.length a0:Int),0,()) (qC)) fun _=>
  some (0,())
abbrev j8:Type:=(List (List UInt8))×(List UInt8)×Int×Int×Unit
abbrev kj:Type:=((Int×Unit) ⊕ Unit)
def j5 (x1:j8) (again:j8→Option kj):Option kj:=
 match x1 with
 | (A,B,C,D,_)=>
 bif decide (D<C) then
  Option.bind (idx A D) fun y2=>
  bif B==y2 then
   some (Sum.inl (D,()))
  else
   again (A,B,C,w64 (D+1),())
 else
  some (Sum.inr ())
def uH (a0:List (List UInt8)) (a1:List UInt8):Option (Int×Unit):=
 aS (β:=(Int×Unit)) (γ:=Unit) (
  iter (X:=j8) (β:=kj) (List.length a0+(List.length a1+(Int.natAbs ((List.length a0:Int))+(Int.natAbs (0:Int)+2)))) (a0,a1,(List.length a0:Int),0,()) (j5)) fun _=>
 some ((-1),())
def mW (a0:List (List UInt8)) (a1:List UInt8):Option (Bool×Unit):=
 Option.bind (uH a0 a1) fun r1=>
 some (decide (r1.1≥0),())
abbrev gx:Type:=(List aP)×(List aP)×Int×Int×(List (List UInt8))×Int×Int×Int×Int×Int×(List (List UInt8))×Unit
abbrev gy:Type:=(((Int×Unit) ⊕ Unit) ⊕ ((List aP)×(List aP)×Int×Int×Unit))
def dY (x1:gx) (again:gx→Option gy):Option gy:=
 match x1 with
 | (A,B,C,D,E,F,G,H,I,J,K,_)=>
 bif decide (G<F) then
  Option.bind (idx E G) fun y2=>
  Option.bind (ja y2) fun r3=>
  bif !r3.1 then
   Gi <|
    some (Sum.inl (5,()))
  else
   chk (decide (0≤(0:Int))&&decide ((0:Int)≤G)&&decide (G≤(K.length:Int))) <|
   Option.bind (mW (List.drop 0 (List.take (Int.toNat G) K)) y2) fun r4=>
   bif r4.1 then
    Gi <|
     some (Sum.inl (7,()))
   else
    again (A,B,C,D,E,F,w64 (G+1),H,I,J,K,())
 else
  some (Sum.inr (A,B,C,D,()))
abbrev se:Type:=(List aP)×(List aP)×Int×Int×Unit
abbrev sI:Type:=((Int×Unit) ⊕ Unit)
def nS (x1:se) (again:se→Option sI):Option sI:=
 match x1 with
 | (A,B,C,D,_)=>
 bif decide (D<C) then
  Option.bind (idx B D) fun y2=>
  Option.bind (yZ y2.1) fun r3=>
  bif !r3.1 then
   some (Sum.inl (1,()))
  else
   bif decide (D>0) then
    Option.bind (idx A (w64 (D - 1))) fun y4=>
    bif decide (y2.1<y4.1) then
     some (Sum.inl (8,()))
    else
     Option.bind (je y2.2.1) fun r5=>
     bif r5.1 != 0 then
      some (Sum.inl (r5.1,()))
     else
      bif decide (((y2.2.2.length:Int))>100) then
       some (Sum.inl (2,()))
      else
       aS (β:=((Int×Unit) ⊕ Unit)) (γ:=((List aP)×(List aP)×Int×Int×Unit)) (
        iter (X:=gx) (β:=gy) (A.length+(B.length+(C.natAbs+(D.natAbs+(y2.2.2.length+(Int.natAbs ((y2.2.2.length:Int))+(Int.natAbs (0:Int)+(y2.1.natAbs+(y2.2.1.1.natAbs+(y2.2.1.2.natAbs+(y2.2.2.length+2))))))))))) (A,B,C,D,y2.2.2,(y2.2.2.length:Int),0,y2.1,y2.2.1.1,y2.2.1.2,y2.2.2,()) (dY)) fun v6=>
       again (v6.1,v6.2.1,v6.2.2.1,w64 (v6.2.2.2.1+1),())
   else
    Option.bind (je y2.2.1) fun r7=>
    bif r7.1 != 0 then
     some (Sum.inl (r7.1,()))
    else
     bif decide (((y2.2.2.length:Int))>100) then
      some (Sum.inl (2,()))
     else
      aS (β:=((Int×Unit) ⊕ Unit)) (γ:=((List aP)×(List aP)×Int×Int×Unit)) (
       iter (X:=gx) (β:=gy) (A.length+(B.length+(C.natAbs+(D.natAbs+(y2.2.2.length+(Int.natAbs ((y2.2.2.length:Int))+(Int.natAbs (0:Int)+(y2.1.natAbs+(y2.2.1.1.natAbs+(y2.2.1.2.natAbs+(y2.2.2.length+2))))))))))) (A,B,C,D,y2.2.2,(y2.2.2.length:Int),0,y2.1,y2.2.1.1,y2.2.1.2,y2.2.2,()) (dY)) fun v8=>
      again (v8.1,v8.2.1,v8.2.2.1,w64 (v8.2.2.2.1+1),())
 else
  some (Sum.inr ())
def qH (a0:List aP):Option (Int×Unit):=
 bif decide (((List.length a0:Int))>500) then
  some (2,())
 else
  aS (β:=(Int×Unit)) (γ:=Unit) (
   iter (X:=se) (β:=sI) (List.length a0+(List.length a0+(Int.natAbs ((List.length a0:Int))+(Int.natAbs (0:Int)+2)))) (a0,a0,(List.length a0:Int),0,()) (nS)) fun _=>
  some (0,())
def wK (a0:List aY) (a1:List aP):Option (Int×Unit):=
 Option.bind (qA a0) fun r1=>
 bif r1.1 != 0 then
  some (r1.1,())
 else
  Option.bind (qH a1) fun r2=>
  some (r2.1,())
def zF (a0:ak):Option (Int×Unit):=
 Option.bind (wg (w64 (4 - a0.2))) fun r1=>
 some (w64 (a0.1*r1.1),())
noncomputable def mm (a0:List (Option Nat)):Option ((List (Option Nat))×Unit):=
 bif List.isEmpty a0 then
  both (
   some ([],())) (
   chk (decide ((0+(List.length a0))*8≤140737488355328)&&decide (0+(List.length a0)≤maxLen)) <|
   some (a0,()))
 else
  chk (decide ((0+(List.length a0))*8≤140737488355328)&&decide (0+(List.length a0)≤maxLen)) <|
  some (a0,())
def wJ (a0:Option Nat) (a1:List aq):Option (Int×Unit):=
 Option.bind (a0) fun h1=>
 Option.bind (a1[h1]?) fun y2=>
 Option.bind (a0) fun h3=>
 Option.bind (a1[h3]?) fun y4=>
 some (w64 (y2.1.2.1+y4.1.2.2.2.1),())
def lM (a0:Option Nat) (a1:Option Nat) (a2:List aq):Option (Int×Unit):=
 Option.bind (wJ a0 a2) fun r1=>
 Option.bind (wJ a1 a2) fun r2=>
 some (w64 (r1.1 - r2.1),())
abbrev dD:Type:=Int×Int×Unit×Int×Int×(List (Option Nat))×(List aq)×Unit
abbrev dB:Type:=((((List (Option Nat))×Unit) ⊕ ((List (Option Nat))×(List aq)×Unit)) ⊕ (Int×Int×Unit×Int×(List (Option Nat))×(List aq)×Unit))
def dF (x1:dD) (again:dD→Option dB):Option dB:=
 match x1 with
 | (A,B,C,D,E,F,G,_)=>
 bif decide (E>A) then
  chk (decide (0≤E)&&decide (E<(F.length:Int))) <|
  Option.bind (F[E.toNat]?) fun y2=>
  chk (decide (0≤(w64 (E - 1)))&&decide ((w64 (E - 1))<(F.length:Int))) <|
  Option.bind (F[(w64 (E - 1)).toNat]?) fun y3=>
  Option.bind (lM y2 y3 G) fun r4=>
  bif decide (r4.1<0) then
   chk (decide (0≤(w64 (E - 1)))&&decide ((w64 (E - 1))<(F.length:Int))) <|
   Option.bind (F[(w64 (E - 1)).toNat]?) fun y5=>
   chk (decide (0≤E)&&decide (E<(F.length:Int))) <|
   Option.bind (F[E.toNat]?) fun y6=>
   chk (decide (0≤E)&&decide (E<(F.length:Int))) <|
   Option.bind (F[E.toNat]?) fun _=>
   chk (decide (0≤(w64 (E - 1)))&&decide ((w64 (E - 1))<(List.length (List.set F E.toNat y5):Int))) <|
   Option.bind ((List.set F E.toNat y5)[(w64 (E - 1)).toNat]?) fun _=>
   again (A,B,C,D,w64 (E - 1),List.set (List.set F E.toNat y5) (w64 (E - 1)).toNat y6,G,())
  else
   some (Sum.inr (A,B,C,D,F,G,()))
 else
  some (Sum.inr (A,B,C,D,F,G,()))
abbrev dz:Type:=Int×Int×Unit×Int×(List (Option Nat))×(List aq)×Unit
abbrev dA:Type:=(((List (Option Nat))×Unit) ⊕ ((List (Option Nat))×(List aq)×Unit))
def cx (x1:dz) (again:dz→Option dA):Option dA:=
 match x1 with
 | (A,B,C,D,E,F,_)=>
 bif decide (D<B) then
  aS (β:=(((List (Option Nat))×Unit) ⊕ ((List (Option Nat))×(List aq)×Unit))) (γ:=(Int×Int×Unit×Int×(List (Option Nat))×(List aq)×Unit)) (
   iter (X:=dD) (β:=dB) (A.natAbs+(B.natAbs+(D.natAbs+(D.natAbs+(E.length+2))))) (A,B,C,D,D,E,F,()) (dF)) fun v2=>
  again (v2.1,v2.2.1,v2.2.2.1,w64 (v2.2.2.2.1+1),v2.2.2.2.2.1,v2.2.2.2.2.2.1,())
 else
  some (Sum.inr (E,F,()))
def cM (a0:List (Option Nat)) (a1:Int) (a2:Int) (a3:Unit) (a4:List aq):Option ((List (Option Nat))×Unit):=
 aS (β:=((List (Option Nat))×Unit)) (γ:=((List (Option Nat))×(List aq)×Unit)) (
  iter (X:=dz) (β:=dA) (Int.natAbs a1+(Int.natAbs a2+(Int.natAbs (w64 (a1+1))+(List.length a0+2)))) (a1,a2,a3,w64 (a1+1),a0,a4,()) (cx)) fun v11=>
 some (v11.1,())
abbrev fF:Type:=Int×Int×Int×Int×(List (Option Nat))×(List aq)×Unit
abbrev fC:Type:=(((List (Option Nat))×Unit) ⊕ ((List (Option Nat))×(List aq)×Unit))
def fD (x1:fF) (again:fF→Option fC):Option fC:=
 match x1 with
 | (A,B,C,D,E,F,_)=>
 bif decide (D<C) then
  chk (decide (0≤(w64 (B+D)))&&decide ((w64 (B+D))<(E.length:Int))) <|
  Option.bind (E[(w64 (B+D)).toNat]?) fun y2=>
  chk (decide (0≤(w64 (A+D)))&&decide ((w64 (A+D))<(E.length:Int))) <|
  Option.bind (E[(w64 (A+D)).toNat]?) fun y3=>
  chk (decide (0≤(w64 (A+D)))&&decide ((w64 (A+D))<(E.length:Int))) <|
  Option.bind (E[(w64 (A+D)).toNat]?) fun _=>
  chk (decide (0≤(w64 (B+D)))&&decide ((w64 (B+D))<(List.length (List.set E (w64 (A+D)).toNat y2):Int))) <|
  Option.bind ((List.set E (w64 (A+D)).toNat y2)[(w64 (B+D)).toNat]?) fun _=>
  again (A,B,C,w64 (D+1),List.set (List.set E (w64 (A+D)).toNat y2) (w64 (B+D)).toNat y3,F,())
 else
  some (Sum.inr (E,F,()))
def cB (a0:List (Option Nat)) (a1:Int) (a2:Int) (a3:Int) (_a4:Unit) (a5:List aq):Option ((List (Option Nat))×Unit):=
 aS (β:=((List (Option Nat))×Unit)) (γ:=((List (Option Nat))×(List aq)×Unit)) (
  iter (X:=fF) (β:=fC) (Int.natAbs a1+(Int.natAbs a2+(Int.natAbs a3+(Int.natAbs (0:Int)+(List.length a0+2))))) (a1,a2,a3,0,a0,a5,()) (fD)) fun v6=>
 some (v6.1,())
abbrev gQ:Type:=Int×Unit×Int×Int×(List (Option Nat))×(List aq)×Unit
abbrev gN:Type:=(((List (Option Nat))×Unit) ⊕ (Int×Unit×Int×(List (Option Nat))×(List aq)×Unit))
def gR (x1:gQ) (again:gQ→Option gN):Option gN:=
 match x1 with
 | (A,B,C,D,E,F,_)=>
 bif C != D then
  bif decide (C>D) then
   Option.bind (cB E (w64 (A - C)) A D B F) fun r2=>
   again (A,B,w64 (C - D),D,r2.1,F,())
  else
   Option.bind (cB E (w64 (A - C)) (w64 ((w64 (A+D)) - C)) C B F) fun r3=>
   again (A,B,C,w64 (D - C),r3.1,F,())
 else
  some (Sum.inr (A,B,C,E,F,()))
def iO (a0:List (Option Nat)) (a1:Int) (a2:Int) (a3:Int) (a4:Unit) (a5:List aq):Option ((List (Option Nat))×Unit):=
 aS (β:=((List (Option Nat))×Unit)) (γ:=(Int×Unit×Int×(List (Option Nat))×(List aq)×Unit)) (
  iter (X:=gQ) (β:=gN) (Int.natAbs a2+(Int.natAbs (w64 (a2 - a1))+(Int.natAbs (w64 (a3 - a2))+(List.length a0+2)))) (a2,a4,w64 (a2 - a1),w64 (a3 - a2),a0,a5,()) (gR)) fun v4=>
 Option.bind (cB v4.2.2.2.1 (w64 (v4.1 - v4.2.2.1)) v4.1 v4.2.2.1 v4.2.1 v4.2.2.2.2.1) fun r5=>
 some (r5.1,())
abbrev gp:Type:=Int×Unit×Int×Int×(List (Option Nat))×(List aq)×Unit
abbrev gv:Type:=(((List (Option Nat))×Unit) ⊕ (Int×Int×(List (Option Nat))×(List aq)×Unit))
def cZ (x1:gp) (again:gp→Option gv):Option gv:=
 match x1 with
 | (A,B,C,D,E,F,_)=>
 bif decide (C<D) then
  let n2:Int:=w64 (Int.fdiv (bP (w64 (C+D))) (2 ^ 1))
  chk (decide (0≤n2)&&decide (n2<(E.length:Int))) <|
  Option.bind (E[n2.toNat]?) fun y3=>
  chk (decide (0≤A)&&decide (A<(E.length:Int))) <|
  Option.bind (E[A.toNat]?) fun y4=>
  Option.bind (lM y3 y4 F) fun r5=>
  bif decide (r5.1<0) then
   again (A,B,w64 (n2+1),D,E,F,())
  else
   again (A,B,C,n2,E,F,())
 else
  some (Sum.inr (A,C,E,F,()))
abbrev fP:Type:=Int×Int×(List (Option Nat))×(List aq)×Unit
abbrev fU:Type:=(((List (Option Nat))×Unit) ⊕ ((List (Option Nat))×(List aq)×Unit))
def gu (x1:fP) (again:fP→Option fU):Option fU:=
 match x1 with
 | (A,B,C,D,_)=>
 bif decide (B<(w64 (A - 1))) then
  chk (decide (0≤(w64 (B+1)))&&decide ((w64 (B+1))<(C.length:Int))) <|
  Option.bind (C[(w64 (B+1)).toNat]?) fun y2=>
  chk (decide (0≤B)&&decide (B<(C.length:Int))) <|
  Option.bind (C[B.toNat]?) fun y3=>
  chk (decide (0≤B)&&decide (B<(C.length:Int))) <|
  Option.bind (C[B.toNat]?) fun _=>
  chk (decide (0≤(w64 (B+1)))&&decide ((w64 (B+1))<(List.length (List.set C B.toNat y2):Int))) <|
  Option.bind ((List.set C B.toNat y2)[(w64 (B+1)).toNat]?) fun _=>
  again (A,w64 (B+1),List.set (List.set C B.toNat y2) (w64 (B+1)).toNat y3,D,())
 else
  some (Sum.inr (C,D,()))
abbrev fM:Type:=Int×Unit×Int×Int×(List (Option Nat))×(List aq)×Unit
abbrev fG:Type:=(((List (Option Nat))×Unit) ⊕ (Int×Int×(List (Option Nat))×(List aq)×Unit))
def cR (x1:fM) (again:fM→Option fG):Option fG:=
 match x1 with
 | (A,B,C,D,E,F,_)=>
 bif decide (C<D) then
  let n2:Int:=w64 (Int.fdiv (bP (w64 (C+D))) (2 ^ 1))
  chk (decide (0≤A)&&decide (A<(E.length:Int))) <|
  Option.bind (E[A.toNat]?) fun y3=>
  chk (decide (0≤n2)&&decide (n2<(E.length:Int))) <|
  Option.bind (E[n2.toNat]?) fun y4=>
  Option.bind (lM y3 y4 F) fun r5=>
  bif !(decide (r5.1<0)) then
   again (A,B,w64 (n2+1),D,E,F,())
  else
   again (A,B,C,n2,E,F,())
 else
  some (Sum.inr (A,C,E,F,()))
abbrev fL:Type:=Int×Int×(List (Option Nat))×(List aq)×Unit
abbrev fI:Type:=(((List (Option Nat))×Unit) ⊕ ((List (Option Nat))×(List aq)×Unit))
def fK (x1:fL) (again:fL→Option fI):Option fI:=
 match x1 with
 | (A,B,C,D,_)=>
 bif decide (B>A) then
  chk (decide (0≤(w64 (B - 1)))&&decide ((w64 (B - 1))<(C.length:Int))) <|
  Option.bind (C[(w64 (B - 1)).toNat]?) fun y2=>
  chk (decide (0≤B)&&decide (B<(C.length:Int))) <|
  Option.bind (C[B.toNat]?) fun y3=>
  chk (decide (0≤B)&&decide (B<(C.length:Int))) <|
  Option.bind (C[B.toNat]?) fun _=>
  chk (decide (0≤(w64 (B - 1)))&&decide ((w64 (B - 1))<(List.length (List.set C B.toNat y2):Int))) <|
  Option.bind ((List.set C B.toNat y2)[(w64 (B - 1)).toNat]?) fun _=>
  again (A,w64 (B - 1),List.set (List.set C B.toNat y2) (w64 (B - 1)).toNat y3,D,())
 else
  some (Sum.inr (C,D,()))
abbrev fJ:Type:=Int×Int×Int×Unit×Int×Int×Int×Int×Int×(List (Option Nat))×(List aq)×Unit
abbrev fH:Type:=(((List (Option Nat))×Unit) ⊕ (Int×Int×Int×Unit×Int×Int×Int×(List (Option Nat))×(List aq)×Unit))
def cO (x1:fJ) (again:fJ→Option fH):Option fH:=
 match x1 with
 | (A,B,C,D,E,F,G,H,I,J,K,_)=>
 bif decide (G<H) then
  let n2:Int:=w64 (Int.fdiv (bP (w64 (G+H))) (2 ^ 1))
  chk (decide (0≤(w64 (I - n2)))&&decide ((w64 (I - n2))<(J.length:Int))) <|
  Option.bind (J[(w64 (I - n2)).toNat]?) fun y3=>
  chk (decide (0≤n2)&&decide (n2<(J.length:Int))) <|
  Option.bind (J[n2.toNat]?) fun y4=>
  Option.bind (lM y3 y4 K) fun r5=>
  bif !(decide (r5.1<0)) then
   again (A,B,C,D,E,F,w64 (n2+1),H,I,J,K,())
  else
   again (A,B,C,D,E,F,G,n2,I,J,K,())
 else
  some (Sum.inr (A,B,C,D,E,F,G,J,K,()))
def bT (self:((List (Option Nat))×Int×Int×Int×Unit×(List aq)×Unit)→Option ((List (Option Nat))×Unit)) (a0:List (Option Nat)) (a1:Int) (a2:Int) (a3:Int) (a4:Unit) (a5:List aq):Option ((List (Option Nat))×Unit):=
 bif (w64 (a2 - a1))==1 then
  aS (β:=((List (Option Nat))×Unit)) (γ:=(Int×Int×(List (Option Nat))×(List aq)×Unit)) (
   iter (X:=gp) (β:=gv) (Int.natAbs a1+(Int.natAbs a2+(Int.natAbs a3+(List.length a0+2)))) (a1,a4,a2,a3,a0,a5,()) (cZ)) fun v6=>
  aS (β:=((List (Option Nat))×Unit)) (γ:=((List (Option Nat))×(List aq)×Unit)) (
   iter (X:=fP) (β:=fU) (v6.2.1.natAbs+(v6.1.natAbs+(v6.2.2.1.length+2))) (v6.2.1,v6.1,v6.2.2.1,v6.2.2.2.1,()) (gu)) fun v12=>
  some (v12.1,())
 else
  bif (w64 (a3 - a2))==1 then
   aS (β:=((List (Option Nat))×Unit)) (γ:=(Int×Int×(List (Option Nat))×(List aq)×Unit)) (
    iter (X:=fM) (β:=fG) (Int.natAbs a2+(Int.natAbs a1+(Int.natAbs a2+(List.length a0+2)))) (a2,a4,a1,a2,a0,a5,()) (cR)) fun v18=>
   aS (β:=((List (Option Nat))×Unit)) (γ:=((List (Option Nat))×(List aq)×Unit)) (
    iter (X:=fL) (β:=fI) (v18.2.1.natAbs+(v18.1.natAbs+(v18.2.2.1.length+2))) (v18.2.1,v18.1,v18.2.2.1,v18.2.2.2.1,()) (fK)) fun v24=>
   some (v24.1,())
  else
   let n25:Int:=w64 (Int.fdiv (bP (w64 (a1+a3))) (2 ^ 1))
   aS (β:=((List (Option Nat))×Unit)) (γ:=(Int×Int×Int×Unit×Int×Int×Int×Int×(List (Option Nat))×(List aq)×Unit)) (
    bif decide (a2>n25) then
     some (Sum.inr (a1,a2,a3,a4,n25,w64 (n25+a2),w64 ((w64 (n25+a2)) - a3),n25,a0,a5,()))
    else
     some (Sum.inr (a1,a2,a3,a4,n25,w64 (n25+a2),a1,a2,a0,a5,()))) fun v26=>
   aS (β:=((List (Option Nat))×Unit)) (γ:=(Int×Int×Int×Unit×Int×Int×Int×(List (Option Nat))×(List aq)×Unit)) (
    iter (X:=fJ) (β:=fH) (v26.1.natAbs+(v26.2.1.natAbs+(v26.2.2.1.natAbs+(v26.2.2.2.2.1.natAbs+(v26.2.2.2.2.2.1.natAbs+(v26.2.2.2.2.2.2.1.natAbs+(v26.2.2.2.2.2.2.2.1.natAbs+(Int.natAbs (w64 (v26.2.2.2.2.2.1 - 1))+(v26.2.2.2.2.2.2.2.2.1.length+2))))))))) (v26.1,v26.2.1,v26.2.2.1,v26.2.2.2.1,v26.2.2.2.2.1,v26.2.2.2.2.2.1,v26.2.2.2.2.2.2.1,v26.2.2.2.2.2.2.2.1,w64 (v26.2.2.2.2.2.1 - 1),v26.2.2.2.2.2.2.2.2.1,v26.2.2.2.2.2.2.2.2.2.1,()) (cO)) fun v32=>
   bif decide (v32.2.2.2.2.2.2.1<v32.2.1) then
    aS (β:=((List (Option Nat))×Unit)) (γ:=(Int×Int×Unit×Int×Int×Int×(List (Option Nat))×(List aq)×Unit)) (
     bif decide (v32.2.1<(w64 (v32.2.2.2.2.2.1 - v32.2.2.2.2.2.2.1))) then
      Option.bind (iO v32.2.2.2.2.2.2.2.1 v32.2.2.2.2.2.2.1 v32.2.1 (w64 (v32.2.2.2.2.2.1 - v32.2.2.2.2.2.2.1)) v32.2.2.2.1 v32.2.2.2.2.2.2.2.2.1) fun r33=>
      some (Sum.inr (v32.1,v32.2.2.1,v32.2.2.2.1,v32.2.2.2.2.1,v32.2.2.2.2.2.2.1,w64 (v32.2.2.2.2.2.1 - v32.2.2.2.2.2.2.1),r33.1,v32.2.2.2.2.2.2.2.2.1,()))
     else
      some (Sum.inr (v32.1,v32.2.2.1,v32.2.2.2.1,v32.2.2.2.2.1,v32.2.2.2.2.2.2.1,w64 (v32.2.2.2.2.2.1 - v32.2.2.2.2.2.2.1),v32.2.2.2.2.2.2.2.1,v32.2.2.2.2.2.2.2.2.1,()))) fun v34=>
    bif decide (v34.1<v34.2.2.2.2.1) then
     aS (β:=((List (Option Nat))×Unit)) (γ:=(Int×Unit×Int×Int×(List (Option Nat))×(List aq)×Unit)) (
      bif decide (v34.2.2.2.2.1<v34.2.2.2.1) then
       Option.bind (self (v34.2.2.2.2.2.2.1,v34.1,v34.2.2.2.2.1,v34.2.2.2.1,v34.2.2.1,v34.2.2.2.2.2.2.2.1,())) fun r35=>
       some (Sum.inr (v34.2.1,v34.2.2.1,v34.2.2.2.1,v34.2.2.2.2.2.1,r35.1,v34.2.2.2.2.2.2.2.1,()))
      else
       some (Sum.inr (v34.2.1,v34.2.2.1,v34.2.2.2.1,v34.2.2.2.2.2.1,v34.2.2.2.2.2.2.1,v34.2.2.2.2.2.2.2.1,()))) fun v36=>
     bif decide (v36.2.2.1<v36.2.2.2.1) then
      bif decide (v36.2.2.2.1<v36.1) then
       Option.bind (self (v36.2.2.2.2.1,v36.2.2.1,v36.2.2.2.1,v36.1,v36.2.1,v36.2.2.2.2.2.1,())) fun r37=>
       some (r37.1,())
      else
       some (v36.2.2.2.2.1,())
     else
      some (v36.2.2.2.2.1,())
    else
     bif decide (v34.2.2.2.1<v34.2.2.2.2.2.1) then
      bif decide (v34.2.2.2.2.2.1<v34.2.1) then
       Option.bind (self (v34.2.2.2.2.2.2.1,v34.2.2.2.1,v34.2.2.2.2.2.1,v34.2.1,v34.2.2.1,v34.2.2.2.2.2.2.2.1,())) fun r38=>
       some (r38.1,())
      else
       some (v34.2.2.2.2.2.2.1,())
     else
      some (v34.2.2.2.2.2.2.1,())
   else
    bif decide (v32.1<v32.2.2.2.2.2.2.1) then
     aS (β:=((List (Option Nat))×Unit)) (γ:=(Int×Unit×Int×Int×(List (Option Nat))×(List aq)×Unit)) (
      bif decide (v32.2.2.2.2.2.2.1<v32.2.2.2.2.1) then
       Option.bind (self (v32.2.2.2.2.2.2.2.1,v32.1,v32.2.2.2.2.2.2.1,v32.2.2.2.2.1,v32.2.2.2.1,v32.2.2.2.2.2.2.2.2.1,())) fun r39=>
       some (Sum.inr (v32.2.2.1,v32.2.2.2.1,v32.2.2.2.2.1,w64 (v32.2.2.2.2.2.1 - v32.2.2.2.2.2.2.1),r39.1,v32.2.2.2.2.2.2.2.2.1,()))
      else
       some (Sum.inr (v32.2.2.1,v32.2.2.2.1,v32.2.2.2.2.1,w64 (v32.2.2.2.2.2.1 - v32.2.2.2.2.2.2.1),v32.2.2.2.2.2.2.2.1,v32.2.2.2.2.2.2.2.2.1,()))) fun v40=>
     bif decide (v40.2.2.1<v40.2.2.2.1) then
      bif decide (v40.2.2.2.1<v40.1) then
       Option.bind (self (v40.2.2.2.2.1,v40.2.2.1,v40.2.2.2.1,v40.1,v40.2.1,v40.2.2.2.2.2.1,())) fun r41=>
       some (r41.1,())
      else
       some (v40.2.2.2.2.1,())
     else
      some (v40.2.2.2.2.1,())
    else
     bif decide (v32.2.2.2.2.1<(w64 (v32.2.2.2.2.2.1 - v32.2.2.2.2.2.2.1))) then
      bif decide ((w64 (v32.2.2.2.2.2.1 - v32.2.2.2.2.2.2.1))<v32.2.2.1) then
       Option.bind (self (v32.2.2.2.2.2.2.2.1,v32.2.2.2.2.1,w64 (v32.2.2.2.2.2.1 - v32.2.2.2.2.2.2.1),v32.2.2.1,v32.2.2.2.1,v32.2.2.2.2.2.2.2.2.1,())) fun r42=>
       some (r42.1,())
      else
       some (v32.2.2.2.2.2.2.2.1,())
     else
      some (v32.2.2.2.2.2.2.2.1,())
def iY (a0:List (Option Nat)) (a1:Int) (a2:Int) (a3:Int) (_a4:Unit) (_a5:List aq):Nat:=List.length a0+(Int.natAbs a1+(Int.natAbs a2+(Int.natAbs a3+2)))
def dV (a0:List (Option Nat)) (a1:Int) (a2:Int) (a3:Int) (a4:Unit) (a5:List aq):Option ((List (Option Nat))×Unit):=
 w7 (fun self x=>bT self x.1 x.2.1 x.2.2.1 x.2.2.2.1 x.2.2.2.2.1 x.2.2.2.2.2.1) (iY a0 a1 a2 a3 a4 a5) (a0,a1,a2,a3,a4,a5,())
abbrev gH:Type:=Int×Unit×Int×Int×Int×(List (Option Nat))×(List aq)×Unit
abbrev gS:Type:=(((List (Option Nat))×Unit) ⊕ (Int×Unit×Int×Int×(List (Option Nat))×(List aq)×Unit))
def gL (x1:gH) (again:gH→Option gS):Option gS:=
 match x1 with
 | (A,B,C,D,E,F,G,_)=>
 bif decide (E≤A) then
  Option.bind (cM F D E B G) fun r2=>
  again (A,B,C,E,w64 (E+C),r2.1,G,())
 else
  some (Sum.inr (A,B,C,D,F,G,()))
abbrev gK:Type:=Int×Unit×Int×Int×Int×(List (Option Nat))×(List aq)×Unit
abbrev gF:Type:=((((List (Option Nat))×Unit) ⊕ ((List (Option Nat))×(List aq)×Unit)) ⊕ (Int×Unit×Int×Int×(List (Option Nat))×(List aq)×Unit))
def gE (x1:gK) (again:gK→Option gF):Option gF:=
 match x1 with
 | (A,B,C,D,E,F,G,_)=>
 bif decide (E≤A) then
  Option.bind (dV F D (w64 (D+C)) E B G) fun r2=>
  again (A,B,C,E,w64 (E+(w64 (2*C))),r2.1,G,())
 else
  some (Sum.inr (A,B,C,D,F,G,()))
abbrev gT:Type:=Int×Unit×Int×(List (Option Nat))×(List aq)×Unit
abbrev gP:Type:=(((List (Option Nat))×Unit) ⊕ ((List (Option Nat))×(List aq)×Unit))
def gD (x1:gT) (again:gT→Option gP):Option gP:=
 match x1 with
 | (A,B,C,D,E,_)=>
 bif decide (C<A) then
  aS (β:=(((List (Option Nat))×Unit) ⊕ ((List (Option Nat))×(List aq)×Unit))) (γ:=(Int×Unit×Int×Int×(List (Option Nat))×(List aq)×Unit)) (
   iter (X:=gK) (β:=gF) (A.natAbs+(C.natAbs+(Int.natAbs (0:Int)+(Int.natAbs (w64 (2*C))+(D.length+2))))) (A,B,C,0,w64 (2*C),D,E,()) (gE)) fun v2=>
  bif decide ((w64 (v2.2.2.2.1+v2.2.2.1))<v2.1) then
   Option.bind (dV v2.2.2.2.2.1 v2.2.2.2.1 (w64 (v2.2.2.2.1+v2.2.2.1)) v2.1 v2.2.1 v2.2.2.2.2.2.1) fun r3=>
   again (v2.1,v2.2.1,w64 (v2.2.2.1*2),r3.1,v2.2.2.2.2.2.1,())
  else
   again (v2.1,v2.2.1,w64 (v2.2.2.1*2),v2.2.2.2.2.1,v2.2.2.2.2.2.1,())
 else
  some (Sum.inr (D,E,()))
def lF (a0:List (Option Nat)) (a1:Int) (a2:Unit) (a3:List aq):Option ((List (Option Nat))×Unit):=
 aS (β:=((List (Option Nat))×Unit)) (γ:=(Int×Unit×Int×Int×(List (Option Nat))×(List aq)×Unit)) (
  iter (X:=gH) (β:=gS) (Int.natAbs a1+(Int.natAbs (20:Int)+(Int.natAbs (0:Int)+(Int.natAbs (20:Int)+(List.length a0+2))))) (a1,a2,20,0,20,a0,a3,()) (gL)) fun v3=>
 Option.bind (cM v3.2.2.2.2.1 v3.2.2.2.1 v3.1 v3.2.1 v3.2.2.2.2.2.1) fun r4=>
 aS (β:=((List (Option Nat))×Unit)) (γ:=((List (Option Nat))×(List aq)×Unit)) (
  iter (X:=gT) (β:=gP) (v3.1.natAbs+(v3.2.2.1.natAbs+(r4.1.length+2))) (v3.1,v3.2.1,v3.2.2.1,r4.1,v3.2.2.2.2.2.1,()) (gD)) fun v10=>
 some (v10.1,())
def iF (a0:List (Option Nat)) (a1:Unit) (a2:List aq):Option ((List (Option Nat))×Unit):=
 Option.bind (lF a0 ((List.length a0:Int)) a1 a2) fun r1=>
 some (r1.1,())
def nU (a0:Option Nat) (a1:Int) (a2:List aq):Option (Bool×Unit):=
 Option.bind (a0) fun h1=>
 Option.bind (a2[h1]?) fun y2=>
 bif decide (y2.1.2.1≤a1) then
  Option.bind (a0) fun h3=>
  Option.bind (a2[h3]?) fun y4=>
  some (y4.2.2.2.2==0,())
 else
  some (false,())
def qk (a0:Option Nat) (a1:List aq):Option (Int×Unit):=
 Option.bind (a0) fun h1=>
 Option.bind (a1[h1]?) fun y2=>
 Option.bind (a0) fun h3=>
 Option.bind (a1[h3]?) fun y4=>
 Option.bind (a0) fun h5=>
 Option.bind (a1[h5]?) fun y6=>
 Option.bind (wg (w64 (4 - y6.1.2.2.1.2))) fun r7=>
 let n8:Int:=w64 ((w64 (Int.tdiv (w64 (y2.1.2.2.1.1*y4.1.2.2.2.2.2)) 1000))*r7.1)
 Option.bind (a0) fun h9=>
 Option.bind (a1[h9]?) fun y10=>
 some (if y10.2.1<n8 then y10.2.1 else n8,())
def p9 (a0:Option Nat) (a1:Int) (a2:Int) (a3:List aq):Option (Int×(List aq)×Unit):=
 Option.bind (a0) fun h1=>
 Option.bind (a3[h1]?) fun y2=>
 Option.bind (a0) fun h3=>
 Option.bind (a3[h3]?) fun y4=>
 Option.bind (a0) fun h5=>
 Option.bind (a3[h5]?) fun y6=>
 Option.bind (a0) fun h7=>
 Option.bind (a3[h7]?) fun y8=>
 Option.bind (a0) fun h9=>
 Option.bind ((List.set a3 h7 (y8.1,y8.2.1,w64 (y4.2.2.1+(if y2.2.1<a1 then y2.2.1 else a1)),y8.2.2.2))[h9]?) fun y10=>
 Option.bind (a0) fun h11=>
 Option.bind ((List.set (List.set a3 h7 (y8.1,y8.2.1,w64 (y4.2.2.1+(if y2.2.1<a1 then y2.2.1 else a1)),y8.2.2.2)) h9 (y10.1,w64 (y6.2.1 - (if y2.2.1<a1 then y2.2.1 else a1)),y10.2.2))[h11]?) fun y12=>
 bif y12.2.1==0 then
  Option.bind (a0) fun h13=>
  Option.bind ((List.set (List.set a3 h7 (y8.1,y8.2.1,w64 (y4.2.2.1+(if y2.2.1<a1 then y2.2.1 else a1)),y8.2.2.2)) h9 (y10.1,w64 (y6.2.1 - (if y2.2.1<a1 then y2.2.1 else a1)),y10.2.2))[h13]?) fun y14=>
  some (w64 (a1 - (if y2.2.1<a1 then y2.2.1 else a1)),List.set (List.set (List.set a3 h7 (y8.1,y8.2.1,w64 (y4.2.2.1+(if y2.2.1<a1 then y2.2.1 else a1)),y8.2.2.2)) h9 (y10.1,w64 (y6.2.1 - (if y2.2.1<a1 then y2.2.1 else a1)),y10.2.2)) h13 (y14.1,y14.2.1,y14.2.2.1,y14.2.2.2.1,a2),())
 else
  some (w64 (a1 - (if y2.2.1<a1 then y2.2.1 else a1)),List.set (List.set a3 h7 (y8.1,y8.2.1,w64 (y4.2.2.1+(if y2.2.1<a1 then y2.2.1 else a1)),y8.2.2.2)) h9 (y10.1,w64 (y6.2.1 - (if y2.2.1<a1 then y2.2.1 else a1)),y10.2.2),())
def qo (a0:Option Nat) (a1:Int) (a2:Int) (a3:List aq):Option (Int×(List aq)×Unit):=
 Option.bind (qk a0 a3) fun r1=>
 Option.bind (a0) fun h2=>
 Option.bind (a3[h2]?) fun y3=>
 bif decide ((w64 (y3.2.1 - r1.1))>a1) then
  Option.bind (p9 a0 a1 a2 a3) fun r4=>
  some (r4.1,r4.2.1,())
 else
  Option.bind (a0) fun h5=>
  Option.bind (a3[h5]?) fun y6=>
  Option.bind (a0) fun h7=>
  Option.bind (a3[h7]?) fun y8=>
  bif decide (a2>(w64 (y6.1.2.1+y8.1.2.2.2.2.1))) then
   Option.bind (p9 a0 a1 a2 a3) fun r9=>
   some (r9.1,r9.2.1,())
  else
   Option.bind (a0) fun h10=>
   Option.bind (a3[h10]?) fun y11=>
   Option.bind (a0) fun h12=>
   Option.bind (a3[h12]?) fun y13=>
   Option.bind (a0) fun h14=>
   Option.bind (a3[h14]?) fun y15=>
   Option.bind (a0) fun h16=>
   Option.bind ((List.set a3 h14 (y15.1,y15.2.1,w64 (y13.2.2.1+(w64 (y11.2.1 - r1.1))),y15.2.2.2))[h16]?) fun y17=>
   Option.bind (a0) fun h18=>
   Option.bind ((List.set (List.set a3 h14 (y15.1,y15.2.1,w64 (y13.2.2.1+(w64 (y11.2.1 - r1.1))),y15.2.2.2)) h16 (y17.1,y17.2.1,y17.2.2.1,r1.1,y17.2.2.2.2))[h18]?) fun y19=>
   Option.bind (a0) fun h20=>
   Option.bind ((List.set (List.set (List.set a3 h14 (y15.1,y15.2.1,w64 (y13.2.2.1+(w64 (y11.2.1 - r1.1))),y15.2.2.2)) h16 (y17.1,y17.2.1,y17.2.2.1,r1.1,y17.2.2.2.2)) h18 (y19.1,0,y19.2.2))[h20]?) fun y21=>
   some (w64 (a1 - (w64 (y11.2.1 - r1.1))),List.set (List.set (List.set (List.set a3 h14 (y15.1,y15.2.1,w64 (y13.2.2.1+(w64 (y11.2.1 - r1.1))),y15.2.2.2)) h16 (y17.1,y17.2.1,y17.2.2.1,r1.1,y17.2.2.2.2)) h18 (y19.1,0,y19.2.2)) h20 (y21.1,y21.2.1,y21.2.2.1,y21.2.2.2.1,a2),())
abbrev tu:Type:=(List aP)×Int×(List (Option Nat))×(List aY)×Int×Int×(List ((List UInt8)×(Option Nat)))×(List aq)×Unit
abbrev tM:Type:=(((List (Option Nat))×(List Int)×(List aq)×Unit) ⊕ ((List aP)×Int×(List (Option Nat))×(List ((List UInt8)×(Option Nat)))×(List aq)×Unit))
noncomputable def tK (x1:tu) (again:tu→Option tM):Option tM:=
 match x1 with
 | (A,B,C,D,E,F,G,H,_)=>
 bif decide (F<E) then
  Option.bind (idx D F) fun y2=>
  Option.bind (zF y2.2.2.1) fun r3=>
  chk (decide (((C.length)+1)*8≤140737488355328)&&decide ((C.length)+1≤maxLen)) <|
  again (A,B,C++[(some (H.length))],D,E,w64 (F+1),yJ (k:= .str) (v:= .hnd) G y2.1 (some (H.length)),H++[(y2,r3.1,0,0,0)],())
 else
  some (Sum.inr (A,B,C,G,H,()))
abbrev rH:Type:=Int×(List (Option Nat))×(List Int)×Int×(List aP)×Int×Int×(List (List UInt8))×Int×Int×Int×Int×Int×(List (List UInt8))×(List (Option Nat))×(List ((List UInt8)×(Option Nat)))×(List aq)×Unit
abbrev rI:Type:=((((List (Option Nat))×(List Int)×(List aq)×Unit) ⊕ ((List (Option Nat))×(List Int)×(List aq)×Unit)) ⊕ (Int×(List (Option Nat))×(List Int)×Int×(List aP)×Int×Int×Int×Int×Int×(List (List UInt8))×(List (Option Nat))×(List ((List UInt8)×(Option Nat)))×(List aq)×Unit))
noncomputable def rB (x1:rH) (again:rH→Option rI):Option rI:=
 match x1 with
 | (A,B,C,D,E,F,G,H,I,J,K,L,M,N,O,P,Q,_)=>
 bif decide (J<I) then
  Option.bind (idx H J) fun y2=>
  bif !(Option.isNone (Option.getD (rR (k:= .str) (v:= .hnd) P y2) none)) then
   Option.bind (nU (Option.getD (rR (k:= .str) (v:= .hnd) P y2) none) K Q) fun r3=>
   bif r3.1 then
    Option.bind (qo (Option.getD (rR (k:= .str) (v:= .hnd) P y2) none) D K Q) fun r4=>
    again (A,B,C,r4.1,E,F,G,H,I,w64 (J+1),K,L,M,N,O,P,r4.2.1,())
   else
    again (A,B,C,D,E,F,G,H,I,w64 (J+1),K,L,M,N,O,P,Q,())
  else
   again (A,B,C,D,E,F,G,H,I,w64 (J+1),K,L,M,N,O,P,Q,())
 else
  some (Sum.inr (A,B,C,D,E,F,G,K,L,M,N,O,P,Q,()))
abbrev rm:Type:=Int×(List (Option Nat))×(List Int)×Int×(List aP)×Int×Int×Int×Int×Int×Int×Int×(List (List UInt8))×(List (Option Nat))×(List ((List UInt8)×(Option Nat)))×(List aq)×Unit
abbrev rG:Type:=((((List (Option Nat))×(List Int)×(List aq)×Unit) ⊕ ((List (Option Nat))×(List Int)×(List aq)×Unit)) ⊕ (Int×(List (Option Nat))×(List Int)×Int×(List aP)×Int×Int×(List (Option Nat))×(List ((List UInt8)×(Option Nat)))×(List aq)×Unit))
noncomputable def rj (x1:rm) (again:rm→Option rG):Option rG:=
 match x1 with
 | (A,B,C,D,E,F,G,H,I,J,K,L,M,N,O,P,_)=>
 bif decide (I<H) then
  chk (decide (0≤I)&&decide (I<(N.length:Int))) <|
  Option.bind (N[I.toNat]?) fun y2=>
  bif decide (D>0) then
   Option.bind (nU y2 J P) fun r3=>
   bif r3.1 then
    Option.bind (p9 y2 D J P) fun r4=>
    again (A,B,C,r4.1,E,F,G,H,w64 (I+1),J,K,L,M,N,O,r4.2.1,())
   else
    again (A,B,C,D,E,F,G,H,w64 (I+1),J,K,L,M,N,O,P,())
  else
   again (A,B,C,D,E,F,G,H,w64 (I+1),J,K,L,M,N,O,P,())
 else
  some (Sum.inr (A,B,C,D,E,F,G,N,O,P,()))
abbrev rL:Type:=Int×(List (Option Nat))×(List Int)×(List aP)×Int×Int×(List (Option Nat))×(List ((List UInt8)×(Option Nat)))×(List aq)×Unit
abbrev rA:Type:=(((List (Option Nat))×(List Int)×(List aq)×Unit) ⊕ ((List (Option Nat))×(List Int)×(List aq)×Unit))
noncomputable def ri (x1:rL) (again:rL→Option rA):Option rA:=
 match x1 with
 | (A,B,C,D,E,F,G,H,I,_)=>
 bif decide (F<E) then
  Option.bind (idx D F) fun y2=>
  bif decide (y2.1>A) then
   some (Sum.inr (B,C,I,()))
  else
   Option.bind (zF y2.2.1) fun r3=>
   aS (β:=(((List (Option Nat))×(List Int)×(List aq)×Unit) ⊕ ((List (Option Nat))×(List Int)×(List aq)×Unit))) (γ:=(Int×(List (Option Nat))×(List Int)×Int×(List aP)×Int×Int×Int×Int×Int×(List (List UInt8))×(List (Option Nat))×(List ((List UInt8)×(Option Nat)))×(List aq)×Unit)) (
    iter (X:=rH) (β:=rI) (A.natAbs+(B.length+(C.length+(r3.1.natAbs+(D.length+(E.natAbs+(F.natAbs+(y2.2.2.length+(Int.natAbs ((y2.2.2.length:Int))+(Int.natAbs (0:Int)+(y2.1.natAbs+(y2.2.1.1.natAbs+(y2.2.1.2.natAbs+(y2.2.2.length+(G.length+(H.length+(I.length+2))))))))))))))))) (A,B,C,r3.1,D,E,F,y2.2.2,(y2.2.2.length:Int),0,y2.1,y2.2.1.1,y2.2.1.2,y2.2.2,G,H,I,()) (rB)) fun v4=>
   aS (β:=(((List (Option Nat))×(List Int)×(List aq)×Unit) ⊕ ((List (Option Nat))×(List Int)×(List aq)×Unit))) (γ:=(Int×(List (Option Nat))×(List Int)×Int×(List aP)×Int×Int×(List (Option Nat))×(List ((List UInt8)×(Option Nat)))×(List aq)×Unit)) (
    iter (X:=rm) (β:=rG) (v4.1.natAbs+(v4.2.1.length+(v4.2.2.1.length+(v4.2.2.2.1.natAbs+(v4.2.2.2.2.1.length+(v4.2.2.2.2.2.1.natAbs+(v4.2.2.2.2.2.2.1.natAbs+(Int.natAbs ((v4.2.2.2.2.2.2.2.2.2.2.2.1.length:Int))+(Int.natAbs (0:Int)+(v4.2.2.2.2.2.2.2.1.natAbs+(v4.2.2.2.2.2.2.2.2.1.natAbs+(v4.2.2.2.2.2.2.2.2.2.1.natAbs+(v4.2.2.2.2.2.2.2.2.2.2.1.length+(v4.2.2.2.2.2.2.2.2.2.2.2.1.length+(v4.2.2.2.2.2.2.2.2.2.2.2.2.1.length+(v4.2.2.2.2.2.2.2.2.2.2.2.2.2.1.length+2)))))))))))))))) (v4.1,v4.2.1,v4.2.2.1,v4.2.2.2.1,v4.2.2.2.2.1,v4.2.2.2.2.2.1,v4.2.2.2.2.2.2.1,(v4.2.2.2.2.2.2.2.2.2.2.2.1.length:Int),0,v4.2.2.2.2.2.2.2.1,v4.2.2.2.2.2.2.2.2.1,v4.2.2.2.2.2.2.2.2.2.1,v4.2.2.2.2.2.2.2.2.2.2.1,v4.2.2.2.2.2.2.2.2.2.2.2.1,v4.2.2.2.2.2.2.2.2.2.2.2.2.1,v4.2.2.2.2.2.2.2.2.2.2.2.2.2.1,()) (rj)) fun v5=>
   chk (decide (((v5.2.2.1.length)+1)*8≤140737488355328)&&decide ((v5.2.2.1.length)+1≤maxLen)) <|
   again (v5.1,v5.2.1,v5.2.2.1++[v5.2.2.2.1],v5.2.2.2.2.1,v5.2.2.2.2.2.1,w64 (v5.2.2.2.2.2.2.1+1),v5.2.2.2.2.2.2.2.1,v5.2.2.2.2.2.2.2.2.1,v5.2.2.2.2.2.2.2.2.2.1,())
 else
  some (Sum.inr (B,C,I,()))
noncomputable def yd (a0:List aY) (a1:List aP) (a2:Int) (a3:List aq):Option ((List (Option Nat))×(List Int)×(List aq)×Unit):=
 aS (β:=((List (Option Nat))×(List Int)×(List aq)×Unit)) (γ:=((List aP)×Int×(List (Option Nat))×(List ((List UInt8)×(Option Nat)))×(List aq)×Unit)) (
  iter (X:=tu) (β:=tM) (List.length a1+(Int.natAbs a2+(List.length ([]:List (Option Nat))+(List.length a0+(Int.natAbs ((List.length a0:Int))+(Int.natAbs (0:Int)+(List.length ([]:List ((List UInt8)×(Option Nat)))+(List.length a3+2)))))))) (a1,a2,[],a0,(List.length a0:Int),0,[],a3,()) (tK)) fun v4=>
 Option.bind (mm v4.2.2.1) fun r5=>
 Option.bind (iF r5.1 () v4.2.2.2.2.1) fun r6=>
 aS (β:=((List (Option Nat))×(List Int)×(List aq)×Unit)) (γ:=((List (Option Nat))×(List Int)×(List aq)×Unit)) (
  iter (X:=rL) (β:=rA) (v4.2.1.natAbs+(v4.2.2.1.length+(List.length ([]:List Int)+(v4.1.length+(Int.natAbs ((v4.1.length:Int))+(Int.natAbs (0:Int)+(r6.1.length+(v4.2.2.2.1.length+(v4.2.2.2.2.1.length+2))))))))) (v4.2.1,v4.2.2.1,[],v4.1,(v4.1.length:Int),0,r6.1,v4.2.2.2.1,v4.2.2.2.2.1,()) (ri)) fun v20=>
 some (v20.1,v20.2.1,v20.2.2.1,())
abbrev pg:Type:=(List Int)×Unit
abbrev yI:Type:=(((List Int)×Unit) ⊕ ((List Int)×Unit))
def yM (x1:pg) (again:pg→Option yI):Option yI:=
 bif decide (((x1.1.length:Int))>0) then
  Option.bind (idx x1.1 (w64 (((x1.1.length:Int)) - 1))) fun y2=>
  bif y2==0 then
   chk (decide (0≤(0:Int))&&decide ((0:Int)≤(w64 (((x1.1.length:Int)) - 1)))&&decide ((w64 (((x1.1.length:Int)) - 1))≤(x1.1.length:Int))) <|
   again (List.drop 0 (List.take (Int.toNat (w64 (((x1.1.length:Int)) - 1))) x1.1),())
  else
   some (Sum.inr (x1.1,()))
 else
  some (Sum.inr (x1.1,()))
def qd (a0:List Int):Option ((List Int)×Unit):=
 aS (β:=((List Int)×Unit)) (γ:=((List Int)×Unit)) (
  iter (X:=pg) (β:=yI) (List.length a0+2) (a0,()) (yM)) fun v3=>
 some (v3.1,())
def jC (a0:Bool) (a1:List Int):Option (aa×Unit):=
 Option.bind (qd a1) fun r1=>
 bif a0 then
  some ((decide (((r1.1.length:Int))>0),r1.1),())
 else
  some ((false,r1.1),())
def bD (a0:Int):Option (aa×Unit):=
 aS (β:=(aa×Unit)) (γ:=(Int×Int×Bool×(List Int)×Unit)) (
  bif decide (a0<0) then
   some (Sum.inr (a0,bP (0 - (bP a0)),false,[],()))
  else
   some (Sum.inr (a0,bP a0,false,[],()))) fun v1=>
 Option.bind (jC (decide (v1.1<0)) [(nv v1.2.1),(nv (Int.fdiv v1.2.1 (2 ^ 32)))]) fun r2=>
 some (r2.1,())
abbrev vj:Type:=(List Int)×(List Int)×Int×(List Int)×Int×Int×Unit
abbrev vP:Type:=(((List Int)×Unit) ⊕ ((List Int)×Int×Unit))
def vG (x1:vj) (again:vj→Option vP):Option vP:=
 match x1 with
 | (A,B,C,D,E,F,_)=>
 bif decide (F<E) then
  Option.bind (idx D F) fun y2=>
  aS (β:=(((List Int)×Unit) ⊕ ((List Int)×Int×Unit))) (γ:=((List Int)×(List Int)×Int×(List Int)×Int×Int×Unit)) (
   bif decide (F<((A.length:Int))) then
    Option.bind (idx A F) fun y3=>
    let n4:Int:=bP ((bP (C+(bP y2)))+(bP y3))
    some (Sum.inr (A,B,n4,D,E,F,()))
   else
    some (Sum.inr (A,B,bP (C+(bP y2)),D,E,F,()))) fun v5=>
  chk (decide (((v5.2.1.length)+1)*4≤140737488355328)&&decide ((v5.2.1.length)+1≤maxLen)) <|
  again (v5.1,v5.2.1++[(nv v5.2.2.1)],Int.fdiv v5.2.2.1 (2 ^ 32),v5.2.2.2.1,v5.2.2.2.2.1,w64 (v5.2.2.2.2.2.1+1),())
 else
  some (Sum.inr (B,C,()))
def B4 (a0:List Int) (a1:List Int):Option ((List Int)×Unit):=
 aS (β:=((List Int)×Unit)) (γ:=((List Int)×(List Int)×Unit)) (
  bif decide (((List.length a0:Int))<((List.length a1:Int))) then
   some (Sum.inr (a1,a0,()))
  else
   some (Sum.inr (a0,a1,()))) fun v1=>
 chk (decide (0≤(0:Int))&&decide ((0:Int)≤(w64 (((v1.1.length:Int))+1)))&&decide ((4:Int)*(w64 (((v1.1.length:Int))+1))≤281474976710656)&&decide ((w64 (((v1.1.length:Int))+1))≤9223372036854775807)) <|
 aS (β:=((List Int)×Unit)) (γ:=((List Int)×Int×Unit)) (
  iter (X:=vj) (β:=vP) (v1.2.1.length+(List.length ([]:List Int)+(Int.natAbs (0:Int)+(v1.1.length+(Int.natAbs ((v1.1.length:Int))+(Int.natAbs (0:Int)+2)))))) (v1.2.1,[],0,v1.1,(v1.1.length:Int),0,()) (vG)) fun v7=>
 chk (decide (((v7.1.length)+1)*4≤140737488355328)&&decide ((v7.1.length)+1≤maxLen)) <|
 some (v7.1++[(nv v7.2.1)],())
abbrev th:Type:=(List Int)×(List Int)×Int×Unit
abbrev tg:Type:=((Int×Unit) ⊕ Unit)
def o4 (x1:th) (again:th→Option tg):Option tg:=
 match x1 with
 | (A,B,C,_)=>
 bif decide (C≥0) then
  Option.bind (idx A C) fun y2=>
  Option.bind (idx B C) fun y3=>
  bif y2 != y3 then
   Option.bind (idx A C) fun y4=>
   Option.bind (idx B C) fun y5=>
   bif decide (y4<y5) then
    some (Sum.inl ((-1),()))
   else
    some (Sum.inl (1,()))
  else
   again (A,B,w64 (C - 1),())
 else
  some (Sum.inr ())
def um (a0:List Int) (a1:List Int):Option (Int×Unit):=
 bif ((List.length a0:Int)) != ((List.length a1:Int)) then
  some (w64 (((List.length a0:Int)) - ((List.length a1:Int))),())
 else
  aS (β:=(Int×Unit)) (γ:=Unit) (
   iter (X:=th) (β:=tg) (List.length a0+(List.length a1+(Int.natAbs (w64 (((List.length a0:Int)) - 1))+2))) (a0,a1,w64 (((List.length a0:Int)) - 1),()) (o4)) fun _=>
  some (0,())
abbrev yb:Type:=(List Int)×(List Int)×Int×(List Int)×Int×Int×Unit
abbrev yo:Type:=(((List Int)×Unit) ⊕ ((List Int)×Unit))
def yj (x1:yb) (again:yb→Option yo):Option yo:=
 match x1 with
 | (A,B,C,D,E,F,_)=>
 bif decide (F<E) then
  Option.bind (idx D F) fun y2=>
  aS (β:=(((List Int)×Unit) ⊕ ((List Int)×Unit))) (γ:=((List Int)×(List Int)×Int×(List Int)×Int×Int×Unit)) (
   bif decide (F<((A.length:Int))) then
    Option.bind (idx A F) fun y3=>
    let n4:Int:=bP ((bP ((bP y2) - C)) - (bP y3))
    some (Sum.inr (A,B,n4,D,E,F,()))
   else
    some (Sum.inr (A,B,bP ((bP y2) - C),D,E,F,()))) fun v5=>
  chk (decide (((v5.2.1.length)+1)*4≤140737488355328)&&decide ((v5.2.1.length)+1≤maxLen)) <|
  again (v5.1,v5.2.1++[(nv v5.2.2.1)],bP (((BitVec.ofInt (IntKind.bits .u64) (Int.fdiv v5.2.2.1 (2 ^ 32)) &&& BitVec.ofInt (IntKind.bits .u64) 1).toNat:Int)),v5.2.2.2.1,v5.2.2.2.2.1,w64 (v5.2.2.2.2.2.1+1),())
 else
  some (Sum.inr (B,()))
def wh (a0:List Int) (a1:List Int):Option ((List Int)×Unit):=
 chk (decide (0≤(0:Int))&&decide ((0:Int)≤((List.length a0:Int)))&&decide ((4:Int)*((List.length a0:Int))≤281474976710656)&&decide (((List.length a0:Int))≤9223372036854775807)) <|
 aS (β:=((List Int)×Unit)) (γ:=((List Int)×Unit)) (
  iter (X:=yb) (β:=yo) (List.length a1+(List.length ([]:List Int)+(Int.natAbs (0:Int)+(List.length a0+(Int.natAbs ((List.length a0:Int))+(Int.natAbs (0:Int)+2)))))) (a1,[],0,a0,(List.length a0:Int),0,()) (yj)) fun v6=>
 Option.bind (qd v6.1) fun r7=>
 some (r7.1,())
abbrev uK:Type:=(List Int)×Int×Bool×(List Int)×Bool×(List Int)×Bool×(List Int)×Bool×(List Int)×(List Int)×Unit
abbrev uL:Type:=((aa×aa×Unit) ⊕ ((List Int)×Bool×(List Int)×Bool×(List Int)×(List Int)×Unit))
def uO (x1:uK) (again:uK→Option uL):Option uL:=
 match x1 with
 | (A,B,C,D,E,F,G,H,I,J,K,_)=>
 bif decide (B≥0) then
  Option.bind (B4 A A) fun r2=>
  chk (decide (0≤(0:Int))&&decide ((0:Int)<(r2.1.length:Int))) <|
  Option.bind (r2.1[0]?) fun y3=>
  Option.bind (idx D (w64 (Int.tdiv B 32))) fun y4=>
  chk (decide (0≤(Int.tmod B 32))) <|
  let n5:Int:=nv (((BitVec.ofInt (IntKind.bits .u32) (Int.fdiv y4 (2 ^ (min (Int.toNat (Int.tmod B 32)) (IntKind.bits .u32)))) &&& BitVec.ofInt (IntKind.bits .u32) 1).toNat:Int))
  chk (decide (0≤(0:Int))&&decide ((0:Int)<(r2.1.length:Int))) <|
  Option.bind (r2.1[0]?) fun _=>
  Option.bind (qd (List.set r2.1 0 (nv (((BitVec.ofInt (IntKind.bits .u32) y3 ||| BitVec.ofInt (IntKind.bits .u32) n5).toNat:Int))))) fun r6=>
  Option.bind (um r6.1 F) fun r7=>
  bif decide (r7.1≥0) then
   Option.bind (wh r6.1 F) fun r8=>
   chk (decide (0≤(w64 (Int.tdiv B 32)))&&decide ((w64 (Int.tdiv B 32))<(K.length:Int))) <|
   Option.bind (K[(w64 (Int.tdiv B 32)).toNat]?) fun y9=>
   chk (decide (0≤(Int.tmod B 32))) <|
   let n10:Int:=nv (((BitVec.ofInt (IntKind.bits .u32) y9 ||| BitVec.ofInt (IntKind.bits .u32) (nv (1*2 ^ (min (Int.toNat (Int.tmod B 32)) (IntKind.bits .u32))))).toNat:Int))
   chk (decide (0≤(w64 (Int.tdiv B 32)))&&decide ((w64 (Int.tdiv B 32))<(K.length:Int))) <|
   Option.bind (K[(w64 (Int.tdiv B 32)).toNat]?) fun _=>
   again (r8.1,w64 (B - 1),C,D,E,F,G,H,I,J,List.set K (w64 (Int.tdiv B 32)).toNat n10,())
  else
   again (r6.1,w64 (B - 1),C,D,E,F,G,H,I,J,K,())
 else
  some (Sum.inr (A,G,H,I,J,K,()))
def o5 (a0:aa) (a1:aa):Option (aa×aa×Unit):=
 chk (decide (0≤((a0.2.length:Int)))&&decide (((a0.2.length:Int))≤((a0.2.length:Int)))&&decide ((4:Int)*((a0.2.length:Int))≤281474976710656)&&decide (((a0.2.length:Int))≤9223372036854775807)) <|
 let n1:Int:=w64 ((w64 (((a0.2.length:Int))*32)) - 1)
 aS (β:=(aa×aa×Unit)) (γ:=((List Int)×Bool×(List Int)×Bool×(List Int)×(List Int)×Unit)) (
  iter (X:=uK) (β:=uL) (List.length ([]:List Int)+(Int.natAbs n1+(a0.2.length+(a1.2.length+(List.length ([]:List Int)+(List.length ([]:List Int)+(List.length ((List.replicate (Int.toNat ((a0.2.length:Int))) 0):List Int)+2))))))) ([],n1,a0.1,a0.2,a1.1,a1.2,false,[],false,[],List.replicate (Int.toNat ((a0.2.length:Int))) 0,()) (uO)) fun v14=>
 Option.bind (jC false v14.2.2.2.2.2.1) fun r15=>
 Option.bind (jC false v14.1) fun r16=>
 some (r15.1,r16.1,())
def aC (a0:aa):Option (Int×Unit):=
 bif a0.1 then
  some ((-1),())
 else
  bif ((a0.2.length:Int))==0 then
   some (0,())
  else
   some (1,())
def aD (a0:aa):Option (aa×Unit):=
 Option.bind (jC (!a0.1) a0.2) fun r1=>
 some (r1.1,())
abbrev s6:Type:=Int×Int×(List Int)×Int×Int×Bool×(List Int)×Unit
abbrev sY:Type:=((Int×Bool×Unit) ⊕ (Int×Int×Bool×(List Int)×Unit))
def s5 (x1:s6) (again:s6→Option sY):Option sY:=
 match x1 with
 | (A,B,C,D,E,F,G,_)=>
 bif decide (E<D) then
  Option.bind (idx C E) fun y2=>
  chk (decide (0≤(w64 (32*E)))) <|
  let n3:Int:=bP ((bP y2)*2 ^ (min (Int.toNat (w64 (32*E))) (IntKind.bits .u64)))
  again (A,bP (((BitVec.ofInt (IntKind.bits .u64) B ||| BitVec.ofInt (IntKind.bits .u64) n3).toNat:Int)),C,D,w64 (E+1),F,G,())
 else
  some (Sum.inr (A,B,F,G,()))
def nX (a0:aa) (a1:Int):Option (Int×Bool×Unit):=
 bif decide (((a0.2.length:Int))>2) then
  some (0,false,())
 else
  aS (β:=(Int×Bool×Unit)) (γ:=(Int×Int×Bool×(List Int)×Unit)) (
   iter (X:=s6) (β:=sY) (Int.natAbs a1+(Int.natAbs (0:Int)+(a0.2.length+(Int.natAbs ((a0.2.length:Int))+(Int.natAbs (0:Int)+(a0.2.length+2)))))) (a1,0,a0.2,(a0.2.length:Int),0,a0.1,a0.2,()) (s5)) fun v4=>
  bif decide (v4.2.1>(bP v4.1)) then
   some (0,false,())
  else
   bif v4.2.2.1 then
    some (w64 (0 - (w64 v4.2.1)),true,())
   else
    some (w64 v4.2.1,true,())
def lI (a0:aa) (a1:Int):Option (ak×Int×Unit):=
 Option.bind (nX a0 1000000000000000) fun r1=>
 bif !r1.2.1 then
  some ((0,0),1,())
 else
  some ((r1.1,a1),0,())
abbrev tG:Type:=Int×Bool×(List Int)×Int×Int×Bool×(List Int)×Unit
abbrev tD:Type:=((ak×Int×Unit) ⊕ (Int×Bool×(List Int)×Int×Int×Unit))
def td (x1:tG) (again:tG→Option tD):Option tD:=
 match x1 with
 | (A,B,C,D,E,F,G,_)=>
 bif decide (A>0) then
  Option.bind (o5 (B,C) (F,G)) fun r2=>
  Option.bind (aC r2.2.1) fun r3=>
  bif r3.1 != 0 then
   some (Sum.inr (A,B,C,D,E,()))
  else
   Option.bind (aC (B,C)) fun r4=>
   bif decide (r4.1<0) then
    Option.bind (aD r2.1) fun r5=>
    again (w64 (A - 1),r5.1.1,r5.1.2,D,E,F,G,())
   else
    again (w64 (A - 1),r2.1.1,r2.1.2,D,E,F,G,())
 else
  some (Sum.inr (A,B,C,D,E,()))
def ya (a0:aa) (a1:Int):Option (ak×Int×Unit):=
 Option.bind (bD 10) fun r1=>
 aS (β:=(ak×Int×Unit)) (γ:=(Int×Bool×(List Int)×Int×Int×Unit)) (
  iter (X:=tG) (β:=tD) (Int.natAbs a1+(a0.2.length+(Int.natAbs (0:Int)+(Int.natAbs (0:Int)+(r1.1.2.length+2))))) (a1,a0.1,a0.2,0,0,r1.1.1,r1.1.2,()) (td)) fun v7=>
 Option.bind (lI (v7.2.1,v7.2.2.1) v7.1) fun r8=>
 some (r8.1,r8.2.1,())
def DF (a0:Int):Option (ak×Int×Unit):=
 Option.bind (bD a0) fun r1=>
 Option.bind (ya r1.1 4) fun r2=>
 some (r2.1,r2.2.1,())
def k9 (a0:Int):Option (ak×Unit):=
 Option.bind (DF a0) fun r1=>
 some (r1.1,())
abbrev BK:Type:=(List Int)×(List gM)×(List (Option Nat))×Int×Int×(List aq)×Unit
abbrev BZ:Type:=(((List gM)×(List ak)×Int×Unit) ⊕ ((List Int)×(List gM)×(List aq)×Unit))
noncomputable def BT (x1:BK) (again:BK→Option BZ):Option BZ:=
 match x1 with
 | (A,B,C,D,E,F,_)=>
 bif decide (E<D) then
  Option.bind (idx C E) fun y2=>
  Option.bind (y2) fun h3=>
  Option.bind (F[h3]?) fun y4=>
  Option.bind (y2) fun h5=>
  Option.bind (F[h5]?) fun y6=>
  Option.bind (k9 y6.2.2.1) fun r7=>
  Option.bind (y2) fun h8=>
  Option.bind (F[h8]?) fun y9=>
  Option.bind (k9 y9.2.2.2.1) fun r10=>
  Option.bind (y2) fun h11=>
  Option.bind (F[h11]?) fun y12=>
  chk (decide (((B.length)+1)*56≤140737488355328)&&decide ((B.length)+1≤maxLen)) <|
  again (A,B++[(y4.1.1,r7.1,r10.1,y12.2.2.2.2)],C,D,w64 (E+1),F,())
 else
  some (Sum.inr (A,B,F,()))
abbrev Al:Type:=(List gM)×(List ak)×(List Int)×Int×Int×(List aq)×Unit
abbrev Ab:Type:=(((List gM)×(List ak)×Int×Unit) ⊕ ((List gM)×(List ak)×(List aq)×Unit))
noncomputable def Am (x1:Al) (again:Al→Option Ab):Option Ab:=
 match x1 with
 | (A,B,C,D,E,F,_)=>
 bif decide (E<D) then
  Option.bind (idx C E) fun y2=>
  Option.bind (k9 y2) fun r3=>
  chk (decide (((B.length)+1)*16≤140737488355328)&&decide ((B.length)+1≤maxLen)) <|
  again (A,B++[r3.1],C,D,w64 (E+1),F,())
 else
  some (Sum.inr (A,B,F,()))
noncomputable def yz (a0:List aY) (a1:List aP):Option ((List gM)×(List ak)×Int×Unit):=
 Option.bind (wK a0 a1) fun r1=>
 bif r1.1 != 0 then
  some ([],[],r1.1,())
 else
  Option.bind (yd a0 a1 3652059 []) fun r2=>
  aS (β:=((List gM)×(List ak)×Int×Unit)) (γ:=((List Int)×(List gM)×(List aq)×Unit)) (
   iter (X:=BK) (β:=BZ) (r2.2.1.length+(List.length ([]:List gM)+(r2.1.length+(Int.natAbs ((r2.1.length:Int))+(Int.natAbs (0:Int)+(r2.2.2.1.length+2)))))) (r2.2.1,[],r2.1,(r2.1.length:Int),0,r2.2.2.1,()) (BT)) fun v15=>
  aS (β:=((List gM)×(List ak)×Int×Unit)) (γ:=((List gM)×(List ak)×(List aq)×Unit)) (
   iter (X:=Al) (β:=Ab) (v15.2.1.length+(List.length ([]:List ak)+(v15.1.length+(Int.natAbs ((v15.1.length:Int))+(Int.natAbs (0:Int)+(v15.2.2.1.length+2)))))) (v15.2.1,[],v15.1,(v15.1.length:Int),0,v15.2.2.1,()) (Am)) fun v19=>
  some (v19.1,v19.2.1,0,())
end Go.Md
namespace Go.Md
open Go.Dn
end Go.Md
