/-
  The plain models of the functions that the law reaches, first part. No condition.
-/
import Derived.Test.YtalfglakknbjkaaGreatDoorKd
import Derived.Lib.SlTrimSet
set_option linter.all false
namespace Go.Md
open Go.Dn
def nS (s c:List UInt8):Option (List UInt8×Unit):=
 bif decide (s.length≤9223372036854775807)&&(decide (c.length<4294967281)&&c.all fun b=>decide (b.toNat<128)) then some (Lib.trimS s c,()) else none
abbrev aR:Ty:=(.st (.pair tI tI))
abbrev ak:Type:=Int×Int
abbrev cM:Ty:=(.st (.pair tI (.pair aR (.slice .str))))
abbrev bP:Type:=Int×ak×(List (List UInt8))
abbrev Dd:Ty:=(.st (.pair .str (.pair aR (.pair aR tI))))
abbrev kf:Type:=(List UInt8)×ak×ak×Int
abbrev aW:Ty:=(.st (.pair .bool (.slice tI)))
abbrev ay:Type:=Bool×(List Int)
abbrev gp:Ty:=(.st (.pair .str (.pair tI (.pair aR (.pair tI (.pair tI tI))))))
abbrev cR:Type:=(List UInt8)×Int×ak×Int×Int×Int
abbrev aX:Ty:=(.st (.pair gp (.pair tI (.pair tI (.pair tI tI)))))
abbrev aC:Type:=cR×Int×Int×Int×Int
abbrev aq:Ty:=(.st (.pair .bool (.slice (.int .u32))))
abbrev aa:Type:=Bool×(List Int)
def gP (a0:List UInt8):Option (Bool×Unit):=
 bif decide (((List.length a0:Int))<1) then
  some (false,())
 else
  bif decide (((List.length a0:Int))>40) then
   some (false,())
  else
   Option.bind (Gx a0 0) fun c1=>
   bif decide ((c1.toNat:Int)<97) then
    some (false,())
   else
    Option.bind (Gx a0 0) fun c2=>
    bif decide ((c2.toNat:Int)>122) then
     some (false,())
    else
     Option.bind (nS a0 [97,98,99,100,101,102,103,104,105,106,107,108,109,110,111,112,113,114,115,116,117,118,119,120,121,122,48,49,50,51,52,53,54,55,56,57,45]) fun r3=>
     some (r3.1==[],())
def GZ (a0:cR) (a1:cR):Option (Bool×Unit):=
 some (a0.1==a1.1,())
abbrev mL:Type:=(List cR)×cR×Int×Int×Unit
abbrev mP:Type:=((Int×Unit) ⊕ Unit)
def Ed (x1:mL) (again:mL→Option mP):Option mP:=
 match x1 with
 | (A,B,C,D,_)=>
 bif decide (D<C) then
  Option.bind (idx A D) fun y2=>
  Option.bind (GZ y2 B) fun r3=>
  bif r3.1 then
   some (Sum.inl (D,()))
  else
   again (A,B,C,w64 (D+1),())
 else
  some (Sum.inr ())
def wA (a0:List cR) (a1:cR):Option (Int×Unit):=
 aP (β:=(Int×Unit)) (γ:=Unit) (
  iter (X:=mL) (β:=mP) (List.length a0+(Int.natAbs ((List.length a0:Int))+(Int.natAbs (0:Int)+2))) (a0,a1,(List.length a0:Int),0,()) (Ed)) fun _=>
 some ((-1),())
def sX (a0:List cR) (a1:cR):Option (Bool×Unit):=
 Option.bind (wA a0 a1) fun r1=>
 some (decide (r1.1≥0),())
def cE (a0:Int) (a1:Int) (a2:Int):Option (Bool×Unit):=
 bif decide (a0<a1) then
  some (true,())
 else
  some (decide (a0>a2),())
def Bv (a0:Int):Option (Bool×Unit):=
 Option.bind (cE a0 1 3652059) fun r1=>
 some (!r1.1,())
def b9 (a0:ak):Option (Int×Unit):=
 Option.bind (cE a0.1 (-1000000000000000) 1000000000000000) fun r1=>
 bif r1.1 then
  some (1,())
 else
  Option.bind (cE a0.2 0 9) fun r2=>
  bif r2.1 then
   some (1,())
  else
   some (0,())
abbrev AH:Type:=Int×Int×Int×Unit
abbrev AM:Type:=((Int×Unit) ⊕ (Int×Unit))
def Ax (x1:AH) (again:AH→Option AM):Option AM:=
 bif decide (x1.2.2.1<x1.2.1) then
  again (w64 (x1.1*10),x1.2.1,w64 (x1.2.2.1+1),())
 else
  some (Sum.inr (x1.1,()))
def yz (a0:Int):Option (Int×Unit):=
 aP (β:=(Int×Unit)) (γ:=(Int×Unit)) (
  iter (X:=AH) (β:=AM) (Int.natAbs (1:Int)+(Int.natAbs a0+(Int.natAbs (0:Int)+2))) (1,a0,0,()) (Ax)) fun v2=>
 some (v2.1,())
def fR (a0:ak) (a1:Int):Option (Bool×Unit):=
 Option.bind (yz a0.2) fun r1=>
 Option.bind (cE a0.1 (w64 (0 - (w64 (a1*r1.1)))) (w64 (a1*r1.1))) fun r2=>
 some (!r2.1,())
def rN (a0:ak):Option (Int×Unit):=
 Option.bind (b9 a0) fun r1=>
 bif r1.1 != 0 then
  some (r1.1,())
 else
  bif decide (a0.1≤0) then
   some (1,())
  else
   bif decide (a0.2>4) then
    some (1,())
   else
    Option.bind (fR a0 1000000000) fun r2=>
    bif !r2.1 then
     some (1,())
    else
     some (0,())
abbrev xu:Type:=(List cR)×(List cR)×Int×Int×Unit
abbrev xX:Type:=((Int×Unit) ⊕ Unit)
def Pn (x1:xu) (again:xu→Option xX):Option xX:=
 match x1 with
 | (A,B,C,D,_)=>
 bif decide (D<C) then
  Option.bind (idx B D) fun y2=>
  Option.bind (gP y2.1) fun r3=>
  bif !r3.1 then
   some (Sum.inl (5,()))
  else
   chk (decide (0≤(0:Int))&&decide ((0:Int)≤D)&&decide (D≤(A.length:Int))) <|
   Option.bind (sX (List.drop 0 (List.take (Int.toNat D) A)) y2) fun r4=>
   bif r4.1 then
    some (Sum.inl (7,()))
   else
    Option.bind (Bv y2.2.1) fun r5=>
    bif !r5.1 then
     some (Sum.inl (1,()))
    else
     bif decide (D>0) then
      Option.bind (idx A (w64 (D - 1))) fun y6=>
      bif decide (y2.2.1<y6.2.1) then
       some (Sum.inl (8,()))
      else
       Option.bind (rN y2.2.2.1) fun r7=>
       bif r7.1 != 0 then
        some (Sum.inl (r7.1,()))
       else
        Option.bind (cE y2.2.2.2.1 0 10000) fun r8=>
        bif r8.1 then
         some (Sum.inl (1,()))
        else
         Option.bind (cE y2.2.2.2.2.1 0 y2.2.2.2.1) fun r9=>
         bif r9.1 then
          some (Sum.inl (1,()))
         else
          Option.bind (cE y2.2.2.2.2.2 0 1000) fun r10=>
          bif r10.1 then
           some (Sum.inl (1,()))
          else
           again (A,B,C,w64 (D+1),())
     else
      Option.bind (rN y2.2.2.1) fun r11=>
      bif r11.1 != 0 then
       some (Sum.inl (r11.1,()))
      else
       Option.bind (cE y2.2.2.2.1 0 10000) fun r12=>
       bif r12.1 then
        some (Sum.inl (1,()))
       else
        Option.bind (cE y2.2.2.2.2.1 0 y2.2.2.2.1) fun r13=>
        bif r13.1 then
         some (Sum.inl (1,()))
        else
         Option.bind (cE y2.2.2.2.2.2 0 1000) fun r14=>
         bif r14.1 then
          some (Sum.inl (1,()))
         else
          again (A,B,C,w64 (D+1),())
 else
  some (Sum.inr ())
def JM (a0:List cR):Option (Int×Unit):=
 bif decide (((List.length a0:Int))>200) then
  some (2,())
 else
  aP (β:=(Int×Unit)) (γ:=Unit) (
   iter (X:=xu) (β:=xX) (List.length a0+(List.length a0+(Int.natAbs ((List.length a0:Int))+(Int.natAbs (0:Int)+2)))) (a0,a0,(List.length a0:Int),0,()) (Pn)) fun _=>
  some (0,())
abbrev rQ:Type:=(List (List UInt8))×(List UInt8)×Int×Int×Unit
abbrev rY:Type:=((Int×Unit) ⊕ Unit)
def Kp (x1:rQ) (again:rQ→Option rY):Option rY:=
 match x1 with
 | (A,B,C,D,_)=>
 bif decide (D<C) then
  Option.bind (idx A D) fun y2=>
  bif B==y2 then
   some (Sum.inl (D,()))
  else
   again (A,B,C,w64 (D+1),())
 else
  some (Sum.inr ())
def DB (a0:List (List UInt8)) (a1:List UInt8):Option (Int×Unit):=
 aP (β:=(Int×Unit)) (γ:=Unit) (
  iter (X:=rQ) (β:=rY) (List.length a0+(List.length a1+(Int.natAbs ((List.length a0:Int))+(Int.natAbs (0:Int)+2)))) (a0,a1,(List.length a0:Int),0,()) (Kp)) fun _=>
 some ((-1),())
def zM (a0:List (List UInt8)) (a1:List UInt8):Option (Bool×Unit):=
 Option.bind (DB a0 a1) fun r1=>
 some (decide (r1.1≥0),())
abbrev nr:Type:=(List bP)×(List bP)×Int×Int×(List (List UInt8))×Int×Int×Int×Int×Int×(List (List UInt8))×Unit
abbrev nv:Type:=(((Int×Unit) ⊕ Unit) ⊕ ((List bP)×(List bP)×Int×Int×Unit))
def zJ (x1:nr) (again:nr→Option nv):Option nv:=
 match x1 with
 | (A,B,C,D,E,F,G,H,I,J,K,_)=>
 bif decide (G<F) then
  Option.bind (idx E G) fun y2=>
  Option.bind (gP y2) fun r3=>
  bif !r3.1 then
   Ku <|
    some (Sum.inl (5,()))
  else
   chk (decide (0≤(0:Int))&&decide ((0:Int)≤G)&&decide (G≤(K.length:Int))) <|
   Option.bind (zM (List.drop 0 (List.take (Int.toNat G) K)) y2) fun r4=>
   bif r4.1 then
    Ku <|
     some (Sum.inl (7,()))
   else
    again (A,B,C,D,E,F,w64 (G+1),H,I,J,K,())
 else
  some (Sum.inr (A,B,C,D,()))
abbrev tV:Type:=(List bP)×(List bP)×Int×Int×Unit
abbrev tM:Type:=((Int×Unit) ⊕ Unit)
def K0 (x1:tV) (again:tV→Option tM):Option tM:=
 match x1 with
 | (A,B,C,D,_)=>
 bif decide (D<C) then
  Option.bind (idx B D) fun y2=>
  Option.bind (Bv y2.1) fun r3=>
  bif !r3.1 then
   some (Sum.inl (1,()))
  else
   bif decide (D>0) then
    Option.bind (idx A (w64 (D - 1))) fun y4=>
    bif decide (y2.1<y4.1) then
     some (Sum.inl (8,()))
    else
     Option.bind (rN y2.2.1) fun r5=>
     bif r5.1 != 0 then
      some (Sum.inl (r5.1,()))
     else
      bif decide (((y2.2.2.length:Int))>100) then
       some (Sum.inl (2,()))
      else
       aP (β:=((Int×Unit) ⊕ Unit)) (γ:=((List bP)×(List bP)×Int×Int×Unit)) (
        iter (X:=nr) (β:=nv) (A.length+(B.length+(C.natAbs+(D.natAbs+(y2.2.2.length+(Int.natAbs ((y2.2.2.length:Int))+(Int.natAbs (0:Int)+(y2.1.natAbs+(y2.2.1.1.natAbs+(y2.2.1.2.natAbs+(y2.2.2.length+2))))))))))) (A,B,C,D,y2.2.2,(y2.2.2.length:Int),0,y2.1,y2.2.1.1,y2.2.1.2,y2.2.2,()) (zJ)) fun v6=>
       again (v6.1,v6.2.1,v6.2.2.1,w64 (v6.2.2.2.1+1),())
   else
    Option.bind (rN y2.2.1) fun r7=>
    bif r7.1 != 0 then
     some (Sum.inl (r7.1,()))
    else
     bif decide (((y2.2.2.length:Int))>100) then
      some (Sum.inl (2,()))
     else
      aP (β:=((Int×Unit) ⊕ Unit)) (γ:=((List bP)×(List bP)×Int×Int×Unit)) (
       iter (X:=nr) (β:=nv) (A.length+(B.length+(C.natAbs+(D.natAbs+(y2.2.2.length+(Int.natAbs ((y2.2.2.length:Int))+(Int.natAbs (0:Int)+(y2.1.natAbs+(y2.2.1.1.natAbs+(y2.2.1.2.natAbs+(y2.2.2.length+2))))))))))) (A,B,C,D,y2.2.2,(y2.2.2.length:Int),0,y2.1,y2.2.1.1,y2.2.1.2,y2.2.2,()) (zJ)) fun v8=>
      again (v8.1,v8.2.1,v8.2.2.1,w64 (v8.2.2.2.1+1),())
 else
  some (Sum.inr ())
def E2 (a0:List bP):Option (Int×Unit):=
 bif decide (((List.length a0:Int))>500) then
  some (2,())
 else
  aP (β:=(Int×Unit)) (γ:=Unit) (
   iter (X:=tV) (β:=tM) (List.length a0+(List.length a0+(Int.natAbs ((List.length a0:Int))+(Int.natAbs (0:Int)+2)))) (a0,a0,(List.length a0:Int),0,()) (K0)) fun _=>
  some (0,())
def LM (a0:List cR) (a1:List bP):Option (Int×Unit):=
 Option.bind (JM a0) fun r1=>
 bif r1.1 != 0 then
  some (r1.1,())
 else
  Option.bind (E2 a1) fun r2=>
  some (r2.1,())
def M8 (a0:ak):Option (Int×Unit):=
 Option.bind (yz (w64 (4 - a0.2))) fun r1=>
 some (w64 (a0.1*r1.1),())
noncomputable def yI (a0:List (Option Nat)):Option ((List (Option Nat))×Unit):=
 bif List.isEmpty a0 then
  both (
   some ([],())) (
   chk (decide ((0+(List.length a0))*8≤140737488355328)&&decide (0+(List.length a0)≤maxLen)) <|
   some (a0,()))
 else
  chk (decide ((0+(List.length a0))*8≤140737488355328)&&decide (0+(List.length a0)≤maxLen)) <|
  some (a0,())
def D3 (a0:Option Nat) (a1:List aC):Option (Int×Unit):=
 Option.bind (a0) fun h1=>
 Option.bind (a1[h1]?) fun y2=>
 Option.bind (a0) fun h3=>
 Option.bind (a1[h3]?) fun y4=>
 some (w64 (y2.1.2.1+y4.1.2.2.2.1),())
def rD (a0:Option Nat) (a1:Option Nat) (a2:List aC):Option (Int×Unit):=
 Option.bind (D3 a0 a2) fun r1=>
 Option.bind (D3 a1 a2) fun r2=>
 some (w64 (r1.1 - r2.1),())
abbrev gL:Type:=Int×Int×Unit×Int×Int×(List (Option Nat))×(List aC)×Unit
abbrev gK:Type:=((((List (Option Nat))×Unit) ⊕ ((List (Option Nat))×(List aC)×Unit)) ⊕ (Int×Int×Unit×Int×(List (Option Nat))×(List aC)×Unit))
def tY (x1:gL) (again:gL→Option gK):Option gK:=
 match x1 with
 | (A,B,C,D,E,F,G,_)=>
 bif decide (E>A) then
  chk (decide (0≤E)&&decide (E<(F.length:Int))) <|
  Option.bind (F[E.toNat]?) fun y2=>
  chk (decide (0≤(w64 (E - 1)))&&decide ((w64 (E - 1))<(F.length:Int))) <|
  Option.bind (F[(w64 (E - 1)).toNat]?) fun y3=>
  Option.bind (rD y2 y3 G) fun r4=>
  bif decide (r4.1<0) then
   chk (decide (0≤(w64 (E - 1)))&&decide ((w64 (E - 1))<(F.length:Int))) <|
   Option.bind (F[(w64 (E - 1)).toNat]?) fun y5=>
   chk (decide (0≤E)&&decide (E<(F.length:Int))) <|
   Option.bind (F[E.toNat]?) fun y6=>
   chk (decide (0≤E)&&decide (E<(F.length:Int))) <|
   Option.bind (F[E.toNat]?) fun _=>
   chk (decide (0≤(w64 (E - 1)))&&decide ((w64 (E - 1))<(List.length (List.set F E.toNat y5):Int))) <|
   Option.bind ((List.set F E.toNat y5)[(w64 (E - 1)).toNat]?) fun _=>
   again (A,B,C,D,w64 (E - 1),List.set (List.set F E.toNat y5) (w64 (E - 1)).toNat y6,G,())
  else
   some (Sum.inr (A,B,C,D,F,G,()))
 else
  some (Sum.inr (A,B,C,D,F,G,()))
abbrev gJ:Type:=Int×Int×Unit×Int×(List (Option Nat))×(List aC)×Unit
abbrev gI:Type:=(((List (Option Nat))×Unit) ⊕ ((List (Option Nat))×(List aC)×Unit))
def tX (x1:gJ) (again:gJ→Option gI):Option gI:=
 match x1 with
 | (A,B,C,D,E,F,_)=>
 bif decide (D<B) then
  aP (β:=(((List (Option Nat))×Unit) ⊕ ((List (Option Nat))×(List aC)×Unit))) (γ:=(Int×Int×Unit×Int×(List (Option Nat))×(List aC)×Unit)) (
   iter (X:=gL) (β:=gK) (A.natAbs+(B.natAbs+(D.natAbs+(D.natAbs+(E.length+2))))) (A,B,C,D,D,E,F,()) (tY)) fun v2=>
  again (v2.1,v2.2.1,v2.2.2.1,w64 (v2.2.2.2.1+1),v2.2.2.2.2.1,v2.2.2.2.2.2.1,())
 else
  some (Sum.inr (E,F,()))
def ir (a0:List (Option Nat)) (a1:Int) (a2:Int) (a3:Unit) (a4:List aC):Option ((List (Option Nat))×Unit):=
 aP (β:=((List (Option Nat))×Unit)) (γ:=((List (Option Nat))×(List aC)×Unit)) (
  iter (X:=gJ) (β:=gI) (Int.natAbs a1+(Int.natAbs a2+(Int.natAbs (w64 (a1+1))+(List.length a0+2)))) (a1,a2,a3,w64 (a1+1),a0,a4,()) (tX)) fun v11=>
 some (v11.1,())
abbrev iH:Type:=Int×Int×Int×Int×(List (Option Nat))×(List aC)×Unit
abbrev iM:Type:=(((List (Option Nat))×Unit) ⊕ ((List (Option Nat))×(List aC)×Unit))
def wG (x1:iH) (again:iH→Option iM):Option iM:=
 match x1 with
 | (A,B,C,D,E,F,_)=>
 bif decide (D<C) then
  chk (decide (0≤(w64 (B+D)))&&decide ((w64 (B+D))<(E.length:Int))) <|
  Option.bind (E[(w64 (B+D)).toNat]?) fun y2=>
  chk (decide (0≤(w64 (A+D)))&&decide ((w64 (A+D))<(E.length:Int))) <|
  Option.bind (E[(w64 (A+D)).toNat]?) fun y3=>
  chk (decide (0≤(w64 (A+D)))&&decide ((w64 (A+D))<(E.length:Int))) <|
  Option.bind (E[(w64 (A+D)).toNat]?) fun _=>
  chk (decide (0≤(w64 (B+D)))&&decide ((w64 (B+D))<(List.length (List.set E (w64 (A+D)).toNat y2):Int))) <|
  Option.bind ((List.set E (w64 (A+D)).toNat y2)[(w64 (B+D)).toNat]?) fun _=>
  again (A,B,C,w64 (D+1),List.set (List.set E (w64 (A+D)).toNat y2) (w64 (B+D)).toNat y3,F,())
 else
  some (Sum.inr (E,F,()))
def gu (a0:List (Option Nat)) (a1:Int) (a2:Int) (a3:Int) (_a4:Unit) (a5:List aC):Option ((List (Option Nat))×Unit):=
 aP (β:=((List (Option Nat))×Unit)) (γ:=((List (Option Nat))×(List aC)×Unit)) (
  iter (X:=iH) (β:=iM) (Int.natAbs a1+(Int.natAbs a2+(Int.natAbs a3+(Int.natAbs (0:Int)+(List.length a0+2))))) (a1,a2,a3,0,a0,a5,()) (wG)) fun v6=>
 some (v6.1,())
abbrev jC:Type:=Int×Unit×Int×Int×(List (Option Nat))×(List aC)×Unit
abbrev jw:Type:=(((List (Option Nat))×Unit) ⊕ (Int×Unit×Int×(List (Option Nat))×(List aC)×Unit))
def yQ (x1:jC) (again:jC→Option jw):Option jw:=
 match x1 with
 | (A,B,C,D,E,F,_)=>
 bif C != D then
  bif decide (C>D) then
   Option.bind (gu E (w64 (A - C)) A D B F) fun r2=>
   again (A,B,w64 (C - D),D,r2.1,F,())
  else
   Option.bind (gu E (w64 (A - C)) (w64 ((w64 (A+D)) - C)) C B F) fun r3=>
   again (A,B,C,w64 (D - C),r3.1,F,())
 else
  some (Sum.inr (A,B,C,E,F,()))
def qE (a0:List (Option Nat)) (a1:Int) (a2:Int) (a3:Int) (a4:Unit) (a5:List aC):Option ((List (Option Nat))×Unit):=
 aP (β:=((List (Option Nat))×Unit)) (γ:=(Int×Unit×Int×(List (Option Nat))×(List aC)×Unit)) (
  iter (X:=jC) (β:=jw) (Int.natAbs a2+(Int.natAbs (w64 (a2 - a1))+(Int.natAbs (w64 (a3 - a2))+(List.length a0+2)))) (a2,a4,w64 (a2 - a1),w64 (a3 - a2),a0,a5,()) (yQ)) fun v4=>
 Option.bind (gu v4.2.2.2.1 (w64 (v4.1 - v4.2.2.1)) v4.1 v4.2.2.1 v4.2.1 v4.2.2.2.2.1) fun r5=>
 some (r5.1,())
abbrev jb:Type:=Int×Unit×Int×Int×(List (Option Nat))×(List aC)×Unit
abbrev iY:Type:=(((List (Option Nat))×Unit) ⊕ (Int×Int×(List (Option Nat))×(List aC)×Unit))
def x6 (x1:jb) (again:jb→Option iY):Option iY:=
 match x1 with
 | (A,B,C,D,E,F,_)=>
 bif decide (C<D) then
  let n2:Int:=w64 (Int.fdiv (bV (w64 (C+D))) (2 ^ 1))
  chk (decide (0≤n2)&&decide (n2<(E.length:Int))) <|
  Option.bind (E[n2.toNat]?) fun y3=>
  chk (decide (0≤A)&&decide (A<(E.length:Int))) <|
  Option.bind (E[A.toNat]?) fun y4=>
  Option.bind (rD y3 y4 F) fun r5=>
  bif decide (r5.1<0) then
   again (A,B,w64 (n2+1),D,E,F,())
  else
   again (A,B,C,n2,E,F,())
 else
  some (Sum.inr (A,C,E,F,()))
abbrev jc:Type:=Int×Int×(List (Option Nat))×(List aC)×Unit
abbrev iV:Type:=(((List (Option Nat))×Unit) ⊕ ((List (Option Nat))×(List aC)×Unit))
def wP (x1:jc) (again:jc→Option iV):Option iV:=
 match x1 with
 | (A,B,C,D,_)=>
 bif decide (B<(w64 (A - 1))) then
  chk (decide (0≤(w64 (B+1)))&&decide ((w64 (B+1))<(C.length:Int))) <|
  Option.bind (C[(w64 (B+1)).toNat]?) fun y2=>
  chk (decide (0≤B)&&decide (B<(C.length:Int))) <|
  Option.bind (C[B.toNat]?) fun y3=>
  chk (decide (0≤B)&&decide (B<(C.length:Int))) <|
  Option.bind (C[B.toNat]?) fun _=>
  chk (decide (0≤(w64 (B+1)))&&decide ((w64 (B+1))<(List.length (List.set C B.toNat y2):Int))) <|
  Option.bind ((List.set C B.toNat y2)[(w64 (B+1)).toNat]?) fun _=>
  again (A,w64 (B+1),List.set (List.set C B.toNat y2) (w64 (B+1)).toNat y3,D,())
 else
  some (Sum.inr (C,D,()))
abbrev iJ:Type:=Int×Unit×Int×Int×(List (Option Nat))×(List aC)×Unit
abbrev iD:Type:=(((List (Option Nat))×Unit) ⊕ (Int×Int×(List (Option Nat))×(List aC)×Unit))
def wB (x1:iJ) (again:iJ→Option iD):Option iD:=
 match x1 with
 | (A,B,C,D,E,F,_)=>
 bif decide (C<D) then
  let n2:Int:=w64 (Int.fdiv (bV (w64 (C+D))) (2 ^ 1))
  chk (decide (0≤A)&&decide (A<(E.length:Int))) <|
  Option.bind (E[A.toNat]?) fun y3=>
  chk (decide (0≤n2)&&decide (n2<(E.length:Int))) <|
  Option.bind (E[n2.toNat]?) fun y4=>
  Option.bind (rD y3 y4 F) fun r5=>
  bif !(decide (r5.1<0)) then
   again (A,B,w64 (n2+1),D,E,F,())
  else
   again (A,B,C,n2,E,F,())
 else
  some (Sum.inr (A,C,E,F,()))
abbrev iL:Type:=Int×Int×(List (Option Nat))×(List aC)×Unit
abbrev iN:Type:=(((List (Option Nat))×Unit) ⊕ ((List (Option Nat))×(List aC)×Unit))
def wH (x1:iL) (again:iL→Option iN):Option iN:=
 match x1 with
 | (A,B,C,D,_)=>
 bif decide (B>A) then
  chk (decide (0≤(w64 (B - 1)))&&decide ((w64 (B - 1))<(C.length:Int))) <|
  Option.bind (C[(w64 (B - 1)).toNat]?) fun y2=>
  chk (decide (0≤B)&&decide (B<(C.length:Int))) <|
  Option.bind (C[B.toNat]?) fun y3=>
  chk (decide (0≤B)&&decide (B<(C.length:Int))) <|
  Option.bind (C[B.toNat]?) fun _=>
  chk (decide (0≤(w64 (B - 1)))&&decide ((w64 (B - 1))<(List.length (List.set C B.toNat y2):Int))) <|
  Option.bind ((List.set C B.toNat y2)[(w64 (B - 1)).toNat]?) fun _=>
  again (A,w64 (B - 1),List.set (List.set C B.toNat y2) (w64 (B - 1)).toNat y3,D,())
 else
  some (Sum.inr (C,D,()))
abbrev iK:Type:=Int×Int×Int×Unit×Int×Int×Int×Int×Int×(List (Option Nat))×(List aC)×Unit
abbrev iG:Type:=(((List (Option Nat))×Unit) ⊕ (Int×Int×Int×Unit×Int×Int×Int×(List (Option Nat))×(List aC)×Unit))
def wE (x1:iK) (again:iK→Option iG):Option iG:=
 match x1 with
 | (A,B,C,D,E,F,G,H,I,J,K,_)=>
 bif decide (G<H) then
  let n2:Int:=w64 (Int.fdiv (bV (w64 (G+H))) (2 ^ 1))
  chk (decide (0≤(w64 (I - n2)))&&decide ((w64 (I - n2))<(J.length:Int))) <|
  Option.bind (J[(w64 (I - n2)).toNat]?) fun y3=>
  chk (decide (0≤n2)&&decide (n2<(J.length:Int))) <|
  Option.bind (J[n2.toNat]?) fun y4=>
  Option.bind (rD y3 y4 K) fun r5=>
  bif !(decide (r5.1<0)) then
   again (A,B,C,D,E,F,w64 (n2+1),H,I,J,K,())
  else
   again (A,B,C,D,E,F,G,n2,I,J,K,())
 else
  some (Sum.inr (A,B,C,D,E,F,G,J,K,()))
def dF (self:((List (Option Nat))×Int×Int×Int×Unit×(List aC)×Unit)→Option ((List (Option Nat))×Unit)) (a0:List (Option Nat)) (a1:Int) (a2:Int) (a3:Int) (a4:Unit) (a5:List aC):Option ((List (Option Nat))×Unit):=
 bif (w64 (a2 - a1))==1 then
  aP (β:=((List (Option Nat))×Unit)) (γ:=(Int×Int×(List (Option Nat))×(List aC)×Unit)) (
   iter (X:=jb) (β:=iY) (Int.natAbs a1+(Int.natAbs a2+(Int.natAbs a3+(List.length a0+2)))) (a1,a4,a2,a3,a0,a5,()) (x6)) fun v6=>
  aP (β:=((List (Option Nat))×Unit)) (γ:=((List (Option Nat))×(List aC)×Unit)) (
   iter (X:=jc) (β:=iV) (v6.2.1.natAbs+(v6.1.natAbs+(v6.2.2.1.length+2))) (v6.2.1,v6.1,v6.2.2.1,v6.2.2.2.1,()) (wP)) fun v12=>
  some (v12.1,())
 else
  bif (w64 (a3 - a2))==1 then
   aP (β:=((List (Option Nat))×Unit)) (γ:=(Int×Int×(List (Option Nat))×(List aC)×Unit)) (
    iter (X:=iJ) (β:=iD) (Int.natAbs a2+(Int.natAbs a1+(Int.natAbs a2+(List.length a0+2)))) (a2,a4,a1,a2,a0,a5,()) (wB)) fun v18=>
   aP (β:=((List (Option Nat))×Unit)) (γ:=((List (Option Nat))×(List aC)×Unit)) (
    iter (X:=iL) (β:=iN) (v18.2.1.natAbs+(v18.1.natAbs+(v18.2.2.1.length+2))) (v18.2.1,v18.1,v18.2.2.1,v18.2.2.2.1,()) (wH)) fun v24=>
   some (v24.1,())
  else
   let n25:Int:=w64 (Int.fdiv (bV (w64 (a1+a3))) (2 ^ 1))
   aP (β:=((List (Option Nat))×Unit)) (γ:=(Int×Int×Int×Unit×Int×Int×Int×Int×(List (Option Nat))×(List aC)×Unit)) (
    bif decide (a2>n25) then
     some (Sum.inr (a1,a2,a3,a4,n25,w64 (n25+a2),w64 ((w64 (n25+a2)) - a3),n25,a0,a5,()))
    else
     some (Sum.inr (a1,a2,a3,a4,n25,w64 (n25+a2),a1,a2,a0,a5,()))) fun v26=>
   aP (β:=((List (Option Nat))×Unit)) (γ:=(Int×Int×Int×Unit×Int×Int×Int×(List (Option Nat))×(List aC)×Unit)) (
    iter (X:=iK) (β:=iG) (v26.1.natAbs+(v26.2.1.natAbs+(v26.2.2.1.natAbs+(v26.2.2.2.2.1.natAbs+(v26.2.2.2.2.2.1.natAbs+(v26.2.2.2.2.2.2.1.natAbs+(v26.2.2.2.2.2.2.2.1.natAbs+(Int.natAbs (w64 (v26.2.2.2.2.2.1 - 1))+(v26.2.2.2.2.2.2.2.2.1.length+2))))))))) (v26.1,v26.2.1,v26.2.2.1,v26.2.2.2.1,v26.2.2.2.2.1,v26.2.2.2.2.2.1,v26.2.2.2.2.2.2.1,v26.2.2.2.2.2.2.2.1,w64 (v26.2.2.2.2.2.1 - 1),v26.2.2.2.2.2.2.2.2.1,v26.2.2.2.2.2.2.2.2.2.1,()) (wE)) fun v32=>
   bif decide (v32.2.2.2.2.2.2.1<v32.2.1) then
    aP (β:=((List (Option Nat))×Unit)) (γ:=(Int×Int×Unit×Int×Int×Int×(List (Option Nat))×(List aC)×Unit)) (
     bif decide (v32.2.1<(w64 (v32.2.2.2.2.2.1 - v32.2.2.2.2.2.2.1))) then
      Option.bind (qE v32.2.2.2.2.2.2.2.1 v32.2.2.2.2.2.2.1 v32.2.1 (w64 (v32.2.2.2.2.2.1 - v32.2.2.2.2.2.2.1)) v32.2.2.2.1 v32.2.2.2.2.2.2.2.2.1) fun r33=>
      some (Sum.inr (v32.1,v32.2.2.1,v32.2.2.2.1,v32.2.2.2.2.1,v32.2.2.2.2.2.2.1,w64 (v32.2.2.2.2.2.1 - v32.2.2.2.2.2.2.1),r33.1,v32.2.2.2.2.2.2.2.2.1,()))
     else
      some (Sum.inr (v32.1,v32.2.2.1,v32.2.2.2.1,v32.2.2.2.2.1,v32.2.2.2.2.2.2.1,w64 (v32.2.2.2.2.2.1 - v32.2.2.2.2.2.2.1),v32.2.2.2.2.2.2.2.1,v32.2.2.2.2.2.2.2.2.1,()))) fun v34=>
    bif decide (v34.1<v34.2.2.2.2.1) then
     aP (β:=((List (Option Nat))×Unit)) (γ:=(Int×Unit×Int×Int×(List (Option Nat))×(List aC)×Unit)) (
      bif decide (v34.2.2.2.2.1<v34.2.2.2.1) then
       Option.bind (self (v34.2.2.2.2.2.2.1,v34.1,v34.2.2.2.2.1,v34.2.2.2.1,v34.2.2.1,v34.2.2.2.2.2.2.2.1,())) fun r35=>
       some (Sum.inr (v34.2.1,v34.2.2.1,v34.2.2.2.1,v34.2.2.2.2.2.1,r35.1,v34.2.2.2.2.2.2.2.1,()))
      else
       some (Sum.inr (v34.2.1,v34.2.2.1,v34.2.2.2.1,v34.2.2.2.2.2.1,v34.2.2.2.2.2.2.1,v34.2.2.2.2.2.2.2.1,()))) fun v36=>
     bif decide (v36.2.2.1<v36.2.2.2.1) then
      bif decide (v36.2.2.2.1<v36.1) then
       Option.bind (self (v36.2.2.2.2.1,v36.2.2.1,v36.2.2.2.1,v36.1,v36.2.1,v36.2.2.2.2.2.1,())) fun r37=>
       some (r37.1,())
      else
       some (v36.2.2.2.2.1,())
     else
      some (v36.2.2.2.2.1,())
    else
     bif decide (v34.2.2.2.1<v34.2.2.2.2.2.1) then
      bif decide (v34.2.2.2.2.2.1<v34.2.1) then
       Option.bind (self (v34.2.2.2.2.2.2.1,v34.2.2.2.1,v34.2.2.2.2.2.1,v34.2.1,v34.2.2.1,v34.2.2.2.2.2.2.2.1,())) fun r38=>
       some (r38.1,())
      else
       some (v34.2.2.2.2.2.2.1,())
     else
      some (v34.2.2.2.2.2.2.1,())
   else
    bif decide (v32.1<v32.2.2.2.2.2.2.1) then
     aP (β:=((List (Option Nat))×Unit)) (γ:=(Int×Unit×Int×Int×(List (Option Nat))×(List aC)×Unit)) (
      bif decide (v32.2.2.2.2.2.2.1<v32.2.2.2.2.1) then
       Option.bind (self (v32.2.2.2.2.2.2.2.1,v32.1,v32.2.2.2.2.2.2.1,v32.2.2.2.2.1,v32.2.2.2.1,v32.2.2.2.2.2.2.2.2.1,())) fun r39=>
       some (Sum.inr (v32.2.2.1,v32.2.2.2.1,v32.2.2.2.2.1,w64 (v32.2.2.2.2.2.1 - v32.2.2.2.2.2.2.1),r39.1,v32.2.2.2.2.2.2.2.2.1,()))
      else
       some (Sum.inr (v32.2.2.1,v32.2.2.2.1,v32.2.2.2.2.1,w64 (v32.2.2.2.2.2.1 - v32.2.2.2.2.2.2.1),v32.2.2.2.2.2.2.2.1,v32.2.2.2.2.2.2.2.2.1,()))) fun v40=>
     bif decide (v40.2.2.1<v40.2.2.2.1) then
      bif decide (v40.2.2.2.1<v40.1) then
       Option.bind (self (v40.2.2.2.2.1,v40.2.2.1,v40.2.2.2.1,v40.1,v40.2.1,v40.2.2.2.2.2.1,())) fun r41=>
       some (r41.1,())
      else
       some (v40.2.2.2.2.1,())
     else
      some (v40.2.2.2.2.1,())
    else
     bif decide (v32.2.2.2.2.1<(w64 (v32.2.2.2.2.2.1 - v32.2.2.2.2.2.2.1))) then
      bif decide ((w64 (v32.2.2.2.2.2.1 - v32.2.2.2.2.2.2.1))<v32.2.2.1) then
       Option.bind (self (v32.2.2.2.2.2.2.2.1,v32.2.2.2.2.1,w64 (v32.2.2.2.2.2.1 - v32.2.2.2.2.2.2.1),v32.2.2.1,v32.2.2.2.1,v32.2.2.2.2.2.2.2.2.1,())) fun r42=>
       some (r42.1,())
      else
       some (v32.2.2.2.2.2.2.2.1,())
     else
      some (v32.2.2.2.2.2.2.2.1,())
def mE (a0:List (Option Nat)) (a1:Int) (a2:Int) (a3:Int) (_a4:Unit) (_a5:List aC):Nat:=List.length a0+(Int.natAbs a1+(Int.natAbs a2+(Int.natAbs a3+2)))
def jU (a0:List (Option Nat)) (a1:Int) (a2:Int) (a3:Int) (a4:Unit) (a5:List aC):Option ((List (Option Nat))×Unit):=
 Em (fun self x=>dF self x.1 x.2.1 x.2.2.1 x.2.2.2.1 x.2.2.2.2.1 x.2.2.2.2.2.1) (mE a0 a1 a2 a3 a4 a5) (a0,a1,a2,a3,a4,a5,())
abbrev jz:Type:=Int×Unit×Int×Int×Int×(List (Option Nat))×(List aC)×Unit
abbrev jv:Type:=(((List (Option Nat))×Unit) ⊕ (Int×Unit×Int×Int×(List (Option Nat))×(List aC)×Unit))
def zb (x1:jz) (again:jz→Option jv):Option jv:=
 match x1 with
 | (A,B,C,D,E,F,G,_)=>
 bif decide (E≤A) then
  Option.bind (ir F D E B G) fun r2=>
  again (A,B,C,E,w64 (E+C),r2.1,G,())
 else
  some (Sum.inr (A,B,C,D,F,G,()))
abbrev jy:Type:=Int×Unit×Int×Int×Int×(List (Option Nat))×(List aC)×Unit
abbrev jD:Type:=((((List (Option Nat))×Unit) ⊕ ((List (Option Nat))×(List aC)×Unit)) ⊕ (Int×Unit×Int×Int×(List (Option Nat))×(List aC)×Unit))
def zj (x1:jy) (again:jy→Option jD):Option jD:=
 match x1 with
 | (A,B,C,D,E,F,G,_)=>
 bif decide (E≤A) then
  Option.bind (jU F D (w64 (D+C)) E B G) fun r2=>
  again (A,B,C,E,w64 (E+(w64 (2*C))),r2.1,G,())
 else
  some (Sum.inr (A,B,C,D,F,G,()))
abbrev jB:Type:=Int×Unit×Int×(List (Option Nat))×(List aC)×Unit
abbrev jA:Type:=(((List (Option Nat))×Unit) ⊕ ((List (Option Nat))×(List aC)×Unit))
def yV (x1:jB) (again:jB→Option jA):Option jA:=
 match x1 with
 | (A,B,C,D,E,_)=>
 bif decide (C<A) then
  aP (β:=(((List (Option Nat))×Unit) ⊕ ((List (Option Nat))×(List aC)×Unit))) (γ:=(Int×Unit×Int×Int×(List (Option Nat))×(List aC)×Unit)) (
   iter (X:=jy) (β:=jD) (A.natAbs+(C.natAbs+(Int.natAbs (0:Int)+(Int.natAbs (w64 (2*C))+(D.length+2))))) (A,B,C,0,w64 (2*C),D,E,()) (zj)) fun v2=>
  bif decide ((w64 (v2.2.2.2.1+v2.2.2.1))<v2.1) then
   Option.bind (jU v2.2.2.2.2.1 v2.2.2.2.1 (w64 (v2.2.2.2.1+v2.2.2.1)) v2.1 v2.2.1 v2.2.2.2.2.2.1) fun r3=>
   again (v2.1,v2.2.1,w64 (v2.2.2.1*2),r3.1,v2.2.2.2.2.2.1,())
  else
   again (v2.1,v2.2.1,w64 (v2.2.2.1*2),v2.2.2.2.2.1,v2.2.2.2.2.2.1,())
 else
  some (Sum.inr (D,E,()))
def qD (a0:List (Option Nat)) (a1:Int) (a2:Unit) (a3:List aC):Option ((List (Option Nat))×Unit):=
 aP (β:=((List (Option Nat))×Unit)) (γ:=(Int×Unit×Int×Int×(List (Option Nat))×(List aC)×Unit)) (
  iter (X:=jz) (β:=jv) (Int.natAbs a1+(Int.natAbs (20:Int)+(Int.natAbs (0:Int)+(Int.natAbs (20:Int)+(List.length a0+2))))) (a1,a2,20,0,20,a0,a3,()) (zb)) fun v3=>
 Option.bind (ir v3.2.2.2.2.1 v3.2.2.2.1 v3.1 v3.2.1 v3.2.2.2.2.2.1) fun r4=>
 aP (β:=((List (Option Nat))×Unit)) (γ:=((List (Option Nat))×(List aC)×Unit)) (
  iter (X:=jB) (β:=jA) (v3.1.natAbs+(v3.2.2.1.natAbs+(r4.1.length+2))) (v3.1,v3.2.1,v3.2.2.1,r4.1,v3.2.2.2.2.2.1,()) (yV)) fun v10=>
 some (v10.1,())
def qd (a0:List (Option Nat)) (a1:Unit) (a2:List aC):Option ((List (Option Nat))×Unit):=
 Option.bind (qD a0 ((List.length a0:Int)) a1 a2) fun r1=>
 some (r1.1,())
def Cs (a0:Option Nat) (a1:Int) (a2:List aC):Option (Bool×Unit):=
 Option.bind (a0) fun h1=>
 Option.bind (a2[h1]?) fun y2=>
 bif decide (y2.1.2.1≤a1) then
  Option.bind (a0) fun h3=>
  Option.bind (a2[h3]?) fun y4=>
  some (y4.2.2.2.2==0,())
 else
  some (false,())
def Fx (a0:Option Nat) (a1:List aC):Option (Int×Unit):=
 Option.bind (a0) fun h1=>
 Option.bind (a1[h1]?) fun y2=>
 Option.bind (a0) fun h3=>
 Option.bind (a1[h3]?) fun y4=>
 Option.bind (a0) fun h5=>
 Option.bind (a1[h5]?) fun y6=>
 Option.bind (yz (w64 (4 - y6.1.2.2.1.2))) fun r7=>
 let n8:Int:=w64 ((w64 (Int.tdiv (w64 (y2.1.2.2.1.1*y4.1.2.2.2.2.2)) 1000))*r7.1)
 Option.bind (a0) fun h9=>
 Option.bind (a1[h9]?) fun y10=>
 some (if y10.2.1<n8 then y10.2.1 else n8,())
def Ah (a0:Option Nat) (a1:Int) (a2:Int) (a3:List aC):Option (Int×(List aC)×Unit):=
 Option.bind (a0) fun h1=>
 Option.bind (a3[h1]?) fun y2=>
 Option.bind (a0) fun h3=>
 Option.bind (a3[h3]?) fun y4=>
 Option.bind (a0) fun h5=>
 Option.bind (a3[h5]?) fun y6=>
 Option.bind (a0) fun h7=>
 Option.bind (a3[h7]?) fun y8=>
 Option.bind (a0) fun h9=>
 Option.bind ((List.set a3 h7 (y8.1,y8.2.1,w64 (y4.2.2.1+(if y2.2.1<a1 then y2.2.1 else a1)),y8.2.2.2))[h9]?) fun y10=>
 Option.bind (a0) fun h11=>
 Option.bind ((List.set (List.set a3 h7 (y8.1,y8.2.1,w64 (y4.2.2.1+(if y2.2.1<a1 then y2.2.1 else a1)),y8.2.2.2)) h9 (y10.1,w64 (y6.2.1 - (if y2.2.1<a1 then y2.2.1 else a1)),y10.2.2))[h11]?) fun y12=>
 bif y12.2.1==0 then
  Option.bind (a0) fun h13=>
  Option.bind ((List.set (List.set a3 h7 (y8.1,y8.2.1,w64 (y4.2.2.1+(if y2.2.1<a1 then y2.2.1 else a1)),y8.2.2.2)) h9 (y10.1,w64 (y6.2.1 - (if y2.2.1<a1 then y2.2.1 else a1)),y10.2.2))[h13]?) fun y14=>
  some (w64 (a1 - (if y2.2.1<a1 then y2.2.1 else a1)),List.set (List.set (List.set a3 h7 (y8.1,y8.2.1,w64 (y4.2.2.1+(if y2.2.1<a1 then y2.2.1 else a1)),y8.2.2.2)) h9 (y10.1,w64 (y6.2.1 - (if y2.2.1<a1 then y2.2.1 else a1)),y10.2.2)) h13 (y14.1,y14.2.1,y14.2.2.1,y14.2.2.2.1,a2),())
 else
  some (w64 (a1 - (if y2.2.1<a1 then y2.2.1 else a1)),List.set (List.set a3 h7 (y8.1,y8.2.1,w64 (y4.2.2.1+(if y2.2.1<a1 then y2.2.1 else a1)),y8.2.2.2)) h9 (y10.1,w64 (y6.2.1 - (if y2.2.1<a1 then y2.2.1 else a1)),y10.2.2),())
def JL (a0:Option Nat) (a1:Int) (a2:Int) (a3:List aC):Option (Int×(List aC)×Unit):=
 Option.bind (Fx a0 a3) fun r1=>
 Option.bind (a0) fun h2=>
 Option.bind (a3[h2]?) fun y3=>
 bif decide ((w64 (y3.2.1 - r1.1))>a1) then
  Option.bind (Ah a0 a1 a2 a3) fun r4=>
  some (r4.1,r4.2.1,())
 else
  Option.bind (a0) fun h5=>
  Option.bind (a3[h5]?) fun y6=>
  Option.bind (a0) fun h7=>
  Option.bind (a3[h7]?) fun y8=>
  bif decide (a2>(w64 (y6.1.2.1+y8.1.2.2.2.2.1))) then
   Option.bind (Ah a0 a1 a2 a3) fun r9=>
   some (r9.1,r9.2.1,())
  else
   Option.bind (a0) fun h10=>
   Option.bind (a3[h10]?) fun y11=>
   Option.bind (a0) fun h12=>
   Option.bind (a3[h12]?) fun y13=>
   Option.bind (a0) fun h14=>
   Option.bind (a3[h14]?) fun y15=>
   Option.bind (a0) fun h16=>
   Option.bind ((List.set a3 h14 (y15.1,y15.2.1,w64 (y13.2.2.1+(w64 (y11.2.1 - r1.1))),y15.2.2.2))[h16]?) fun y17=>
   Option.bind (a0) fun h18=>
   Option.bind ((List.set (List.set a3 h14 (y15.1,y15.2.1,w64 (y13.2.2.1+(w64 (y11.2.1 - r1.1))),y15.2.2.2)) h16 (y17.1,y17.2.1,y17.2.2.1,r1.1,y17.2.2.2.2))[h18]?) fun y19=>
   Option.bind (a0) fun h20=>
   Option.bind ((List.set (List.set (List.set a3 h14 (y15.1,y15.2.1,w64 (y13.2.2.1+(w64 (y11.2.1 - r1.1))),y15.2.2.2)) h16 (y17.1,y17.2.1,y17.2.2.1,r1.1,y17.2.2.2.2)) h18 (y19.1,0,y19.2.2))[h20]?) fun y21=>
   some (w64 (a1 - (w64 (y11.2.1 - r1.1))),List.set (List.set (List.set (List.set a3 h14 (y15.1,y15.2.1,w64 (y13.2.2.1+(w64 (y11.2.1 - r1.1))),y15.2.2.2)) h16 (y17.1,y17.2.1,y17.2.2.1,r1.1,y17.2.2.2.2)) h18 (y19.1,0,y19.2.2)) h20 (y21.1,y21.2.1,y21.2.2.1,y21.2.2.2.1,a2),())
abbrev AX:Type:=(List bP)×Int×(List (Option Nat))×(List cR)×Int×Int×(List ((List UInt8)×(Option Nat)))×(List aC)×Unit
abbrev AU:Type:=(((List (Option Nat))×(List Int)×(List aC)×Unit) ⊕ ((List bP)×Int×(List (Option Nat))×(List ((List UInt8)×(Option Nat)))×(List aC)×Unit))
noncomputable def Sh (x1:AX) (again:AX→Option AU):Option AU:=
 match x1 with
 | (A,B,C,D,E,F,G,H,_)=>
 bif decide (F<E) then
  Option.bind (idx D F) fun y2=>
  Option.bind (M8 y2.2.2.1) fun r3=>
  chk (decide (((C.length)+1)*8≤140737488355328)&&decide ((C.length)+1≤maxLen)) <|
  again (A,B,C++[(some (H.length))],D,E,w64 (F+1),Kz (k:= .str) (v:= .hnd) G y2.1 (some (H.length)),H++[(y2,r3.1,0,0,0)],())
 else
  some (Sum.inr (A,B,C,G,H,()))
abbrev za:Type:=Int×(List (Option Nat))×(List Int)×Int×(List bP)×Int×Int×(List (List UInt8))×Int×Int×Int×Int×Int×(List (List UInt8))×(List (Option Nat))×(List ((List UInt8)×(Option Nat)))×(List aC)×Unit
abbrev zn:Type:=((((List (Option Nat))×(List Int)×(List aC)×Unit) ⊕ ((List (Option Nat))×(List Int)×(List aC)×Unit)) ⊕ (Int×(List (Option Nat))×(List Int)×Int×(List bP)×Int×Int×Int×Int×Int×(List (List UInt8))×(List (Option Nat))×(List ((List UInt8)×(Option Nat)))×(List aC)×Unit))
noncomputable def Rg (x1:za) (again:za→Option zn):Option zn:=
 match x1 with
 | (A,B,C,D,E,F,G,H,I,J,K,L,M,N,O,P,Q,_)=>
 bif decide (J<I) then
  Option.bind (idx H J) fun y2=>
  bif !(Option.isNone (Option.getD (DO (k:= .str) (v:= .hnd) P y2) none)) then
   Option.bind (Cs (Option.getD (DO (k:= .str) (v:= .hnd) P y2) none) K Q) fun r3=>
   bif r3.1 then
    Option.bind (JL (Option.getD (DO (k:= .str) (v:= .hnd) P y2) none) D K Q) fun r4=>
    again (A,B,C,r4.1,E,F,G,H,I,w64 (J+1),K,L,M,N,O,P,r4.2.1,())
   else
    again (A,B,C,D,E,F,G,H,I,w64 (J+1),K,L,M,N,O,P,Q,())
  else
   again (A,B,C,D,E,F,G,H,I,w64 (J+1),K,L,M,N,O,P,Q,())
 else
  some (Sum.inr (A,B,C,D,E,F,G,K,L,M,N,O,P,Q,()))
abbrev yM:Type:=Int×(List (Option Nat))×(List Int)×Int×(List bP)×Int×Int×Int×Int×Int×Int×Int×(List (List UInt8))×(List (Option Nat))×(List ((List UInt8)×(Option Nat)))×(List aC)×Unit
abbrev yP:Type:=((((List (Option Nat))×(List Int)×(List aC)×Unit) ⊕ ((List (Option Nat))×(List Int)×(List aC)×Unit)) ⊕ (Int×(List (Option Nat))×(List Int)×Int×(List bP)×Int×Int×(List (Option Nat))×(List ((List UInt8)×(Option Nat)))×(List aC)×Unit))
noncomputable def QU (x1:yM) (again:yM→Option yP):Option yP:=
 match x1 with
 | (A,B,C,D,E,F,G,H,I,J,K,L,M,N,O,P,_)=>
 bif decide (I<H) then
  chk (decide (0≤I)&&decide (I<(N.length:Int))) <|
  Option.bind (N[I.toNat]?) fun y2=>
  bif decide (D>0) then
   Option.bind (Cs y2 J P) fun r3=>
   bif r3.1 then
    Option.bind (Ah y2 D J P) fun r4=>
    again (A,B,C,r4.1,E,F,G,H,w64 (I+1),J,K,L,M,N,O,r4.2.1,())
   else
    again (A,B,C,D,E,F,G,H,w64 (I+1),J,K,L,M,N,O,P,())
  else
   again (A,B,C,D,E,F,G,H,w64 (I+1),J,K,L,M,N,O,P,())
 else
  some (Sum.inr (A,B,C,D,E,F,G,N,O,P,()))
abbrev zi:Type:=Int×(List (Option Nat))×(List Int)×(List bP)×Int×Int×(List (Option Nat))×(List ((List UInt8)×(Option Nat)))×(List aC)×Unit
abbrev yS:Type:=(((List (Option Nat))×(List Int)×(List aC)×Unit) ⊕ ((List (Option Nat))×(List Int)×(List aC)×Unit))
noncomputable def Rd (x1:zi) (again:zi→Option yS):Option yS:=
 match x1 with
 | (A,B,C,D,E,F,G,H,I,_)=>
 bif decide (F<E) then
  Option.bind (idx D F) fun y2=>
  bif decide (y2.1>A) then
   some (Sum.inr (B,C,I,()))
  else
   Option.bind (M8 y2.2.1) fun r3=>
   aP (β:=(((List (Option Nat))×(List Int)×(List aC)×Unit) ⊕ ((List (Option Nat))×(List Int)×(List aC)×Unit))) (γ:=(Int×(List (Option Nat))×(List Int)×Int×(List bP)×Int×Int×Int×Int×Int×(List (List UInt8))×(List (Option Nat))×(List ((List UInt8)×(Option Nat)))×(List aC)×Unit)) (
    iter (X:=za) (β:=zn) (A.natAbs+(B.length+(C.length+(r3.1.natAbs+(D.length+(E.natAbs+(F.natAbs+(y2.2.2.length+(Int.natAbs ((y2.2.2.length:Int))+(Int.natAbs (0:Int)+(y2.1.natAbs+(y2.2.1.1.natAbs+(y2.2.1.2.natAbs+(y2.2.2.length+(G.length+(H.length+(I.length+2))))))))))))))))) (A,B,C,r3.1,D,E,F,y2.2.2,(y2.2.2.length:Int),0,y2.1,y2.2.1.1,y2.2.1.2,y2.2.2,G,H,I,()) (Rg)) fun v4=>
   aP (β:=(((List (Option Nat))×(List Int)×(List aC)×Unit) ⊕ ((List (Option Nat))×(List Int)×(List aC)×Unit))) (γ:=(Int×(List (Option Nat))×(List Int)×Int×(List bP)×Int×Int×(List (Option Nat))×(List ((List UInt8)×(Option Nat)))×(List aC)×Unit)) (
    iter (X:=yM) (β:=yP) (v4.1.natAbs+(v4.2.1.length+(v4.2.2.1.length+(v4.2.2.2.1.natAbs+(v4.2.2.2.2.1.length+(v4.2.2.2.2.2.1.natAbs+(v4.2.2.2.2.2.2.1.natAbs+(Int.natAbs ((v4.2.2.2.2.2.2.2.2.2.2.2.1.length:Int))+(Int.natAbs (0:Int)+(v4.2.2.2.2.2.2.2.1.natAbs+(v4.2.2.2.2.2.2.2.2.1.natAbs+(v4.2.2.2.2.2.2.2.2.2.1.natAbs+(v4.2.2.2.2.2.2.2.2.2.2.1.length+(v4.2.2.2.2.2.2.2.2.2.2.2.1.length+(v4.2.2.2.2.2.2.2.2.2.2.2.2.1.length+(v4.2.2.2.2.2.2.2.2.2.2.2.2.2.1.length+2)))))))))))))))) (v4.1,v4.2.1,v4.2.2.1,v4.2.2.2.1,v4.2.2.2.2.1,v4.2.2.2.2.2.1,v4.2.2.2.2.2.2.1,(v4.2.2.2.2.2.2.2.2.2.2.2.1.length:Int),0,v4.2.2.2.2.2.2.2.1,v4.2.2.2.2.2.2.2.2.1,v4.2.2.2.2.2.2.2.2.2.1,v4.2.2.2.2.2.2.2.2.2.2.1,v4.2.2.2.2.2.2.2.2.2.2.2.1,v4.2.2.2.2.2.2.2.2.2.2.2.2.1,v4.2.2.2.2.2.2.2.2.2.2.2.2.2.1,()) (QU)) fun v5=>
   chk (decide (((v5.2.2.1.length)+1)*8≤140737488355328)&&decide ((v5.2.2.1.length)+1≤maxLen)) <|
   again (v5.1,v5.2.1,v5.2.2.1++[v5.2.2.2.1],v5.2.2.2.2.1,v5.2.2.2.2.2.1,w64 (v5.2.2.2.2.2.2.1+1),v5.2.2.2.2.2.2.2.1,v5.2.2.2.2.2.2.2.2.1,v5.2.2.2.2.2.2.2.2.2.1,())
 else
  some (Sum.inr (B,C,I,()))
noncomputable def NK (a0:List cR) (a1:List bP) (a2:Int) (a3:List aC):Option ((List (Option Nat))×(List Int)×(List aC)×Unit):=
 aP (β:=((List (Option Nat))×(List Int)×(List aC)×Unit)) (γ:=((List bP)×Int×(List (Option Nat))×(List ((List UInt8)×(Option Nat)))×(List aC)×Unit)) (
  iter (X:=AX) (β:=AU) (List.length a1+(Int.natAbs a2+(List.length ([]:List (Option Nat))+(List.length a0+(Int.natAbs ((List.length a0:Int))+(Int.natAbs (0:Int)+(List.length ([]:List ((List UInt8)×(Option Nat)))+(List.length a3+2)))))))) (a1,a2,[],a0,(List.length a0:Int),0,[],a3,()) (Sh)) fun v4=>
 Option.bind (yI v4.2.2.1) fun r5=>
 Option.bind (qd r5.1 () v4.2.2.2.2.1) fun r6=>
 aP (β:=((List (Option Nat))×(List Int)×(List aC)×Unit)) (γ:=((List (Option Nat))×(List Int)×(List aC)×Unit)) (
  iter (X:=zi) (β:=yS) (v4.2.1.natAbs+(v4.2.2.1.length+(List.length ([]:List Int)+(v4.1.length+(Int.natAbs ((v4.1.length:Int))+(Int.natAbs (0:Int)+(r6.1.length+(v4.2.2.2.1.length+(v4.2.2.2.2.1.length+2))))))))) (v4.2.1,v4.2.2.1,[],v4.1,(v4.1.length:Int),0,r6.1,v4.2.2.2.1,v4.2.2.2.2.1,()) (Rd)) fun v20=>
 some (v20.1,v20.2.1,v20.2.2.1,())
abbrev qc:Type:=(List Int)×Unit
abbrev Ba:Type:=(((List Int)×Unit) ⊕ ((List Int)×Unit))
def Be (x1:qc) (again:qc→Option Ba):Option Ba:=
 bif decide (((x1.1.length:Int))>0) then
  Option.bind (idx x1.1 (w64 (((x1.1.length:Int)) - 1))) fun y2=>
  bif y2==0 then
   chk (decide (0≤(0:Int))&&decide ((0:Int)≤(w64 (((x1.1.length:Int)) - 1)))&&decide ((w64 (((x1.1.length:Int)) - 1))≤(x1.1.length:Int))) <|
   again (List.drop 0 (List.take (Int.toNat (w64 (((x1.1.length:Int)) - 1))) x1.1),())
  else
   some (Sum.inr (x1.1,()))
 else
  some (Sum.inr (x1.1,()))
def qQ (a0:List Int):Option ((List Int)×Unit):=
 aP (β:=((List Int)×Unit)) (γ:=((List Int)×Unit)) (
  iter (X:=qc) (β:=Ba) (List.length a0+2) (a0,()) (Be)) fun v3=>
 some (v3.1,())
def ji (a0:Bool) (a1:List Int):Option (aa×Unit):=
 Option.bind (qQ a1) fun r1=>
 bif a0 then
  some ((decide (((r1.1.length:Int))>0),r1.1),())
 else
  some ((false,r1.1),())
def bH (a0:Int):Option (aa×Unit):=
 aP (β:=(aa×Unit)) (γ:=(Int×Int×Bool×(List Int)×Unit)) (
  bif decide (a0<0) then
   some (Sum.inr (a0,bV (0 - (bV a0)),false,[],()))
  else
   some (Sum.inr (a0,bV a0,false,[],()))) fun v1=>
 Option.bind (ji (decide (v1.1<0)) [(nW v1.2.1),(nW (Int.fdiv v1.2.1 (2 ^ 32)))]) fun r2=>
 some (r2.1,())
abbrev xF:Type:=(List Int)×(List Int)×Int×(List Int)×Int×Int×Unit
abbrev x3:Type:=(((List Int)×Unit) ⊕ ((List Int)×Int×Unit))
def xP (x1:xF) (again:xF→Option x3):Option x3:=
 match x1 with
 | (A,B,C,D,E,F,_)=>
 bif decide (F<E) then
  Option.bind (idx D F) fun y2=>
  aP (β:=(((List Int)×Unit) ⊕ ((List Int)×Int×Unit))) (γ:=((List Int)×(List Int)×Int×(List Int)×Int×Int×Unit)) (
   bif decide (F<((A.length:Int))) then
    Option.bind (idx A F) fun y3=>
    let n4:Int:=bV ((bV (C+(bV y2)))+(bV y3))
    some (Sum.inr (A,B,n4,D,E,F,()))
   else
    some (Sum.inr (A,B,bV (C+(bV y2)),D,E,F,()))) fun v5=>
  chk (decide (((v5.2.1.length)+1)*4≤140737488355328)&&decide ((v5.2.1.length)+1≤maxLen)) <|
  again (v5.1,v5.2.1++[(nW v5.2.2.1)],Int.fdiv v5.2.2.1 (2 ^ 32),v5.2.2.2.1,v5.2.2.2.2.1,w64 (v5.2.2.2.2.2.1+1),())
 else
  some (Sum.inr (B,C,()))
def Fk (a0:List Int) (a1:List Int):Option ((List Int)×Unit):=
 aP (β:=((List Int)×Unit)) (γ:=((List Int)×(List Int)×Unit)) (
  bif decide (((List.length a0:Int))<((List.length a1:Int))) then
   some (Sum.inr (a1,a0,()))
  else
   some (Sum.inr (a0,a1,()))) fun v1=>
 chk (decide (0≤(0:Int))&&decide ((0:Int)≤(w64 (((v1.1.length:Int))+1)))&&decide ((4:Int)*(w64 (((v1.1.length:Int))+1))≤281474976710656)&&decide ((w64 (((v1.1.length:Int))+1))≤9223372036854775807)) <|
 aP (β:=((List Int)×Unit)) (γ:=((List Int)×Int×Unit)) (
  iter (X:=xF) (β:=x3) (v1.2.1.length+(List.length ([]:List Int)+(Int.natAbs (0:Int)+(v1.1.length+(Int.natAbs ((v1.1.length:Int))+(Int.natAbs (0:Int)+2)))))) (v1.2.1,[],0,v1.1,(v1.1.length:Int),0,()) (xP)) fun v7=>
 chk (decide (((v7.1.length)+1)*4≤140737488355328)&&decide ((v7.1.length)+1≤maxLen)) <|
 some (v7.1++[(nW v7.2.1)],())
abbrev uF:Type:=(List Int)×(List Int)×Int×Unit
abbrev uP:Type:=((Int×Unit) ⊕ Unit)
def pV (x1:uF) (again:uF→Option uP):Option uP:=
 match x1 with
 | (A,B,C,_)=>
 bif decide (C≥0) then
  Option.bind (idx A C) fun y2=>
  Option.bind (idx B C) fun y3=>
  bif y2 != y3 then
   Option.bind (idx A C) fun y4=>
   Option.bind (idx B C) fun y5=>
   bif decide (y4<y5) then
    some (Sum.inl ((-1),()))
   else
    some (Sum.inl (1,()))
  else
   again (A,B,w64 (C - 1),())
 else
  some (Sum.inr ())
def vj (a0:List Int) (a1:List Int):Option (Int×Unit):=
 bif ((List.length a0:Int)) != ((List.length a1:Int)) then
  some (w64 (((List.length a0:Int)) - ((List.length a1:Int))),())
 else
  aP (β:=(Int×Unit)) (γ:=Unit) (
   iter (X:=uF) (β:=uP) (List.length a0+(List.length a1+(Int.natAbs (w64 (((List.length a0:Int)) - 1))+2))) (a0,a1,w64 (((List.length a0:Int)) - 1),()) (pV)) fun _=>
  some (0,())
abbrev AL:Type:=(List Int)×(List Int)×Int×(List Int)×Int×Int×Unit
abbrev Ai:Type:=(((List Int)×Unit) ⊕ ((List Int)×Unit))
def AI (x1:AL) (again:AL→Option Ai):Option Ai:=
 match x1 with
 | (A,B,C,D,E,F,_)=>
 bif decide (F<E) then
  Option.bind (idx D F) fun y2=>
  aP (β:=(((List Int)×Unit) ⊕ ((List Int)×Unit))) (γ:=((List Int)×(List Int)×Int×(List Int)×Int×Int×Unit)) (
   bif decide (F<((A.length:Int))) then
    Option.bind (idx A F) fun y3=>
    let n4:Int:=bV ((bV ((bV y2) - C)) - (bV y3))
    some (Sum.inr (A,B,n4,D,E,F,()))
   else
    some (Sum.inr (A,B,bV ((bV y2) - C),D,E,F,()))) fun v5=>
  chk (decide (((v5.2.1.length)+1)*4≤140737488355328)&&decide ((v5.2.1.length)+1≤maxLen)) <|
  again (v5.1,v5.2.1++[(nW v5.2.2.1)],bV (((BitVec.ofInt (IntKind.bits .u64) (Int.fdiv v5.2.2.1 (2 ^ 32)) &&& BitVec.ofInt (IntKind.bits .u64) 1).toNat:Int)),v5.2.2.2.1,v5.2.2.2.2.1,w64 (v5.2.2.2.2.2.1+1),())
 else
  some (Sum.inr (B,()))
def yj (a0:List Int) (a1:List Int):Option ((List Int)×Unit):=
 chk (decide (0≤(0:Int))&&decide ((0:Int)≤((List.length a0:Int)))&&decide ((4:Int)*((List.length a0:Int))≤281474976710656)&&decide (((List.length a0:Int))≤9223372036854775807)) <|
 aP (β:=((List Int)×Unit)) (γ:=((List Int)×Unit)) (
  iter (X:=AL) (β:=Ai) (List.length a1+(List.length ([]:List Int)+(Int.natAbs (0:Int)+(List.length a0+(Int.natAbs ((List.length a0:Int))+(Int.natAbs (0:Int)+2)))))) (a1,[],0,a0,(List.length a0:Int),0,()) (AI)) fun v6=>
 Option.bind (qQ v6.1) fun r7=>
 some (r7.1,())
abbrev vS:Type:=(List Int)×Int×Bool×(List Int)×Bool×(List Int)×Bool×(List Int)×Bool×(List Int)×(List Int)×Unit
abbrev vX:Type:=((aa×aa×Unit) ⊕ ((List Int)×Bool×(List Int)×Bool×(List Int)×(List Int)×Unit))
def wu (x1:vS) (again:vS→Option vX):Option vX:=
 match x1 with
 | (A,B,C,D,E,F,G,H,I,J,K,_)=>
 bif decide (B≥0) then
  Option.bind (Fk A A) fun r2=>
  chk (decide (0≤(0:Int))&&decide ((0:Int)<(r2.1.length:Int))) <|
  Option.bind (r2.1[0]?) fun y3=>
  Option.bind (idx D (w64 (Int.tdiv B 32))) fun y4=>
  chk (decide (0≤(Int.tmod B 32))) <|
  let n5:Int:=nW (((BitVec.ofInt (IntKind.bits .u32) (Int.fdiv y4 (2 ^ (min (Int.toNat (Int.tmod B 32)) (IntKind.bits .u32)))) &&& BitVec.ofInt (IntKind.bits .u32) 1).toNat:Int))
  chk (decide (0≤(0:Int))&&decide ((0:Int)<(r2.1.length:Int))) <|
  Option.bind (r2.1[0]?) fun _=>
  Option.bind (qQ (List.set r2.1 0 (nW (((BitVec.ofInt (IntKind.bits .u32) y3 ||| BitVec.ofInt (IntKind.bits .u32) n5).toNat:Int))))) fun r6=>
  Option.bind (vj r6.1 F) fun r7=>
  bif decide (r7.1≥0) then
   Option.bind (yj r6.1 F) fun r8=>
   chk (decide (0≤(w64 (Int.tdiv B 32)))&&decide ((w64 (Int.tdiv B 32))<(K.length:Int))) <|
   Option.bind (K[(w64 (Int.tdiv B 32)).toNat]?) fun y9=>
   chk (decide (0≤(Int.tmod B 32))) <|
   let n10:Int:=nW (((BitVec.ofInt (IntKind.bits .u32) y9 ||| BitVec.ofInt (IntKind.bits .u32) (nW (1*2 ^ (min (Int.toNat (Int.tmod B 32)) (IntKind.bits .u32))))).toNat:Int))
   chk (decide (0≤(w64 (Int.tdiv B 32)))&&decide ((w64 (Int.tdiv B 32))<(K.length:Int))) <|
   Option.bind (K[(w64 (Int.tdiv B 32)).toNat]?) fun _=>
   again (r8.1,w64 (B - 1),C,D,E,F,G,H,I,J,List.set K (w64 (Int.tdiv B 32)).toNat n10,())
  else
   again (r6.1,w64 (B - 1),C,D,E,F,G,H,I,J,K,())
 else
  some (Sum.inr (A,G,H,I,J,K,()))
def td (a0:aa) (a1:aa):Option (aa×aa×Unit):=
 chk (decide (0≤((a0.2.length:Int)))&&decide (((a0.2.length:Int))≤((a0.2.length:Int)))&&decide ((4:Int)*((a0.2.length:Int))≤281474976710656)&&decide (((a0.2.length:Int))≤9223372036854775807)) <|
 let n1:Int:=w64 ((w64 (((a0.2.length:Int))*32)) - 1)
 aP (β:=(aa×aa×Unit)) (γ:=((List Int)×Bool×(List Int)×Bool×(List Int)×(List Int)×Unit)) (
  iter (X:=vS) (β:=vX) (List.length ([]:List Int)+(Int.natAbs n1+(a0.2.length+(a1.2.length+(List.length ([]:List Int)+(List.length ([]:List Int)+(List.length ((List.replicate (Int.toNat ((a0.2.length:Int))) 0):List Int)+2))))))) ([],n1,a0.1,a0.2,a1.1,a1.2,false,[],false,[],List.replicate (Int.toNat ((a0.2.length:Int))) 0,()) (wu)) fun v14=>
 Option.bind (ji false v14.2.2.2.2.2.1) fun r15=>
 Option.bind (ji false v14.1) fun r16=>
 some (r15.1,r16.1,())
def aM (a0:aa):Option (Int×Unit):=
 bif a0.1 then
  some ((-1),())
 else
  bif ((a0.2.length:Int))==0 then
   some (0,())
  else
   some (1,())
def aL (a0:aa):Option (aa×Unit):=
 Option.bind (ji (!a0.1) a0.2) fun r1=>
 some (r1.1,())
abbrev uq:Type:=Int×Int×(List Int)×Int×Int×Bool×(List Int)×Unit
abbrev uS:Type:=((Int×Bool×Unit) ⊕ (Int×Int×Bool×(List Int)×Unit))
def uE (x1:uq) (again:uq→Option uS):Option uS:=
 match x1 with
 | (A,B,C,D,E,F,G,_)=>
 bif decide (E<D) then
  Option.bind (idx C E) fun y2=>
  chk (decide (0≤(w64 (32*E)))) <|
  let n3:Int:=bV ((bV y2)*2 ^ (min (Int.toNat (w64 (32*E))) (IntKind.bits .u64)))
  again (A,bV (((BitVec.ofInt (IntKind.bits .u64) B ||| BitVec.ofInt (IntKind.bits .u64) n3).toNat:Int)),C,D,w64 (E+1),F,G,())
 else
  some (Sum.inr (A,B,F,G,()))
def oD (a0:aa) (a1:Int):Option (Int×Bool×Unit):=
 bif decide (((a0.2.length:Int))>2) then
  some (0,false,())
 else
  aP (β:=(Int×Bool×Unit)) (γ:=(Int×Int×Bool×(List Int)×Unit)) (
   iter (X:=uq) (β:=uS) (Int.natAbs a1+(Int.natAbs (0:Int)+(a0.2.length+(Int.natAbs ((a0.2.length:Int))+(Int.natAbs (0:Int)+(a0.2.length+2)))))) (a1,0,a0.2,(a0.2.length:Int),0,a0.1,a0.2,()) (uE)) fun v4=>
  bif decide (v4.2.1>(bV v4.1)) then
   some (0,false,())
  else
   bif v4.2.2.1 then
    some (w64 (0 - (w64 v4.2.1)),true,())
   else
    some (w64 v4.2.1,true,())
def r0 (a0:aa) (a1:Int):Option (ak×Int×Unit):=
 Option.bind (oD a0 1000000000000000) fun r1=>
 bif !r1.2.1 then
  some ((0,0),1,())
 else
  some ((r1.1,a1),0,())
abbrev AS:Type:=Int×Bool×(List Int)×Int×Int×Bool×(List Int)×Unit
abbrev Bg:Type:=((ak×Int×Unit) ⊕ (Int×Bool×(List Int)×Int×Int×Unit))
def Sk (x1:AS) (again:AS→Option Bg):Option Bg:=
 match x1 with
 | (A,B,C,D,E,F,G,_)=>
 bif decide (A>0) then
  Option.bind (td (B,C) (F,G)) fun r2=>
  Option.bind (aM r2.2.1) fun r3=>
  bif r3.1 != 0 then
   some (Sum.inr (A,B,C,D,E,()))
  else
   Option.bind (aM (B,C)) fun r4=>
   bif decide (r4.1<0) then
    Option.bind (aL r2.1) fun r5=>
    again (w64 (A - 1),r5.1.1,r5.1.2,D,E,F,G,())
   else
    again (w64 (A - 1),r2.1.1,r2.1.2,D,E,F,G,())
 else
  some (Sum.inr (A,B,C,D,E,()))
def Ni (a0:aa) (a1:Int):Option (ak×Int×Unit):=
 Option.bind (bH 10) fun r1=>
 aP (β:=(ak×Int×Unit)) (γ:=(Int×Bool×(List Int)×Int×Int×Unit)) (
  iter (X:=AS) (β:=Bg) (Int.natAbs a1+(a0.2.length+(Int.natAbs (0:Int)+(Int.natAbs (0:Int)+(r1.1.2.length+2))))) (a1,a0.1,a0.2,0,0,r1.1.1,r1.1.2,()) (Sk)) fun v7=>
 Option.bind (r0 (v7.2.1,v7.2.2.1) v7.1) fun r8=>
 some (r8.1,r8.2.1,())
def To (a0:Int):Option (ak×Int×Unit):=
 Option.bind (bH a0) fun r1=>
 Option.bind (Ni r1.1 4) fun r2=>
 some (r2.1,r2.2.1,())
def yq (a0:Int):Option (ak×Unit):=
 Option.bind (To a0) fun r1=>
 some (r1.1,())
abbrev Kj:Type:=(List Int)×(List kf)×(List (Option Nat))×Int×Int×(List aC)×Unit
abbrev Kx:Type:=(((List kf)×(List ak)×Int×Unit) ⊕ ((List Int)×(List kf)×(List aC)×Unit))
noncomputable def Zg (x1:Kj) (again:Kj→Option Kx):Option Kx:=
 match x1 with
 | (A,B,C,D,E,F,_)=>
 bif decide (E<D) then
  Option.bind (idx C E) fun y2=>
  Option.bind (y2) fun h3=>
  Option.bind (F[h3]?) fun y4=>
  Option.bind (y2) fun h5=>
  Option.bind (F[h5]?) fun y6=>
  Option.bind (yq y6.2.2.1) fun r7=>
  Option.bind (y2) fun h8=>
  Option.bind (F[h8]?) fun y9=>
  Option.bind (yq y9.2.2.2.1) fun r10=>
  Option.bind (y2) fun h11=>
  Option.bind (F[h11]?) fun y12=>
  chk (decide (((B.length)+1)*56≤140737488355328)&&decide ((B.length)+1≤maxLen)) <|
  again (A,B++[(y4.1.1,r7.1,r10.1,y12.2.2.2.2)],C,D,w64 (E+1),F,())
 else
  some (Sum.inr (A,B,F,()))
abbrev IC:Type:=(List kf)×(List ak)×(List Int)×Int×Int×(List aC)×Unit
abbrev I9:Type:=(((List kf)×(List ak)×Int×Unit) ⊕ ((List kf)×(List ak)×(List aC)×Unit))
noncomputable def XF (x1:IC) (again:IC→Option I9):Option I9:=
 match x1 with
 | (A,B,C,D,E,F,_)=>
 bif decide (E<D) then
  Option.bind (idx C E) fun y2=>
  Option.bind (yq y2) fun r3=>
  chk (decide (((B.length)+1)*16≤140737488355328)&&decide ((B.length)+1≤maxLen)) <|
  again (A,B++[r3.1],C,D,w64 (E+1),F,())
 else
  some (Sum.inr (A,B,F,()))
noncomputable def Xr (a0:List cR) (a1:List bP):Option ((List kf)×(List ak)×Int×Unit):=
 Option.bind (LM a0 a1) fun r1=>
 bif r1.1 != 0 then
  some ([],[],r1.1,())
 else
  Option.bind (NK a0 a1 3652059 []) fun r2=>
  aP (β:=((List kf)×(List ak)×Int×Unit)) (γ:=((List Int)×(List kf)×(List aC)×Unit)) (
   iter (X:=Kj) (β:=Kx) (r2.2.1.length+(List.length ([]:List kf)+(r2.1.length+(Int.natAbs ((r2.1.length:Int))+(Int.natAbs (0:Int)+(r2.2.2.1.length+2)))))) (r2.2.1,[],r2.1,(r2.1.length:Int),0,r2.2.2.1,()) (Zg)) fun v15=>
  aP (β:=((List kf)×(List ak)×Int×Unit)) (γ:=((List kf)×(List ak)×(List aC)×Unit)) (
   iter (X:=IC) (β:=I9) (v15.2.1.length+(List.length ([]:List ak)+(v15.1.length+(Int.natAbs ((v15.1.length:Int))+(Int.natAbs (0:Int)+(v15.2.2.1.length+2)))))) (v15.2.1,[],v15.1,(v15.1.length:Int),0,v15.2.2.1,()) (XF)) fun v19=>
  some (v19.1,v19.2.1,0,())
noncomputable def Qh:Option (Bool×Unit):=
 Option.bind (Xr [([97],5,(7,0),0,0,0)] [(6,(9,0),[])]) fun r1=>
 bif r1.2.2.1==0 then
  bif ((r1.1.length:Int))==1 then
   Option.bind (idx r1.1 0) fun y2=>
   bif y2.2.2.2==6 then
    bif ((r1.2.1.length:Int))==1 then
     Option.bind (idx r1.2.1 0) fun y3=>
     some (y3.1==2,())
    else
     some (false,())
   else
    some (false,())
  else
   some (false,())
 else
  some (false,())
abbrev H9:Type:=Int×Bool×(List Int)×Bool×(List Int)×Unit
abbrev IX:Type:=((ay×Unit) ⊕ (Bool×(List Int)×Bool×(List Int)×Unit))
def Bf (x1:H9) (again:H9→Option IX):Option IX:=
 match x1 with
 | (A,B,C,D,E,_)=>
 bif A != 0 then
  chk (decide (((E.length)+1)*8≤140737488355328)&&decide ((E.length)+1≤maxLen)) <|
  again (w64 (Int.tdiv A 1000000),B,C,D,E++[(if (w64 (0 - (Int.tmod A 1000000)))>(Int.tmod A 1000000) then (w64 (0 - (Int.tmod A 1000000))) else (Int.tmod A 1000000))],())
 else
  some (Sum.inr (B,C,D,E,()))
def mg (a0:Int):Option (ay×Unit):=
 aP (β:=(ay×Unit)) (γ:=(Bool×(List Int)×Bool×(List Int)×Unit)) (
  iter (X:=H9) (β:=IX) (Int.natAbs a0+(List.length ([]:List Int)+(List.length ([]:List Int)+2))) (a0,false,[],decide (a0<0),[],()) (Bf)) fun v2=>
 some ((v2.2.2.1,v2.2.2.2.1),())
abbrev vt:Type:=Bool×(List Int)×Bool×(List Int)×Unit
abbrev Gq:Type:=((ay×Unit) ⊕ (Bool×(List Int)×Bool×(List Int)×Unit))
def Gd (x1:vt) (again:vt→Option Gq):Option Gq:=
 match x1 with
 | (A,B,C,D,_)=>
 bif decide (((B.length:Int))>0) then
  Option.bind (idx B (w64 (((B.length:Int)) - 1))) fun y2=>
  bif y2==0 then
   chk (decide (0≤(0:Int))&&decide ((0:Int)≤(w64 (((B.length:Int)) - 1)))&&decide ((w64 (((B.length:Int)) - 1))≤(B.length:Int))) <|
   again (A,List.drop 0 (List.take (Int.toNat (w64 (((B.length:Int)) - 1))) B),C,D,())
  else
   some (Sum.inr (A,B,C,D,()))
 else
  some (Sum.inr (A,B,C,D,()))
def oZ (a0:ay):Option (ay×Unit):=
 aP (β:=(ay×Unit)) (γ:=(Bool×(List Int)×Bool×(List Int)×Unit)) (
  iter (X:=vt) (β:=Gq) (a0.2.length+(List.length ([]:List Int)+2)) (a0.1,a0.2,false,[],()) (Gd)) fun v3=>
 bif ((v3.2.1.length:Int))==0 then
  some ((false,v3.2.1),())
 else
  some ((v3.1,v3.2.1),())
abbrev AA:Type:=Int×Int×(List Int)×Int×Int×(List Int)×Int×Int×Bool×(List Int)×Bool×(List Int)×Bool×(List Int)×Unit
abbrev AK:Type:=(((ay×Unit) ⊕ (Bool×(List Int)×Bool×(List Int)×Unit)) ⊕ ((List Int)×Int×Int×Bool×(List Int)×Bool×(List Int)×Bool×(List Int)×Unit))
def Am (x1:AA) (again:AA→Option AK):Option AK:=
 match x1 with
 | (A,B,C,D,E,F,G,H,I,J,K,L,M,N,_)=>
 bif decide (H<G) then
  Option.bind (idx F H) fun y2=>
  chk (decide (0≤(w64 (A+H)))&&decide ((w64 (A+H))<(N.length:Int))) <|
  Option.bind (N[(w64 (A+H)).toNat]?) fun y3=>
  chk (decide (0≤(w64 (A+H)))&&decide ((w64 (A+H))<(N.length:Int))) <|
  Option.bind (N[(w64 (A+H)).toNat]?) fun _=>
  chk (decide (0≤(w64 ((w64 (A+H))+1)))&&decide ((w64 ((w64 (A+H))+1))<(List.length (List.set N (w64 (A+H)).toNat (w64 (y3+(w64 (B*y2))))):Int))) <|
  Option.bind ((List.set N (w64 (A+H)).toNat (w64 (y3+(w64 (B*y2)))))[(w64 ((w64 (A+H))+1)).toNat]?) fun y4=>
  chk (decide (0≤(w64 (A+H)))&&decide ((w64 (A+H))<(List.length (List.set N (w64 (A+H)).toNat (w64 (y3+(w64 (B*y2))))):Int))) <|
  Option.bind ((List.set N (w64 (A+H)).toNat (w64 (y3+(w64 (B*y2)))))[(w64 (A+H)).toNat]?) fun y5=>
  chk (decide (0≤(w64 ((w64 (A+H))+1)))&&decide ((w64 ((w64 (A+H))+1))<(List.length (List.set N (w64 (A+H)).toNat (w64 (y3+(w64 (B*y2))))):Int))) <|
  Option.bind ((List.set N (w64 (A+H)).toNat (w64 (y3+(w64 (B*y2)))))[(w64 ((w64 (A+H))+1)).toNat]?) fun _=>
  chk (decide (0≤(w64 (A+H)))&&decide ((w64 (A+H))<(List.length (List.set (List.set N (w64 (A+H)).toNat (w64 (y3+(w64 (B*y2))))) (w64 ((w64 (A+H))+1)).toNat (w64 (y4+(w64 (Int.tdiv y5 1000000))))):Int))) <|
  Option.bind ((List.set (List.set N (w64 (A+H)).toNat (w64 (y3+(w64 (B*y2))))) (w64 ((w64 (A+H))+1)).toNat (w64 (y4+(w64 (Int.tdiv y5 1000000)))))[(w64 (A+H)).toNat]?) fun y6=>
  chk (decide (0≤(w64 (A+H)))&&decide ((w64 (A+H))<(List.length (List.set (List.set N (w64 (A+H)).toNat (w64 (y3+(w64 (B*y2))))) (w64 ((w64 (A+H))+1)).toNat (w64 (y4+(w64 (Int.tdiv y5 1000000))))):Int))) <|
  Option.bind ((List.set (List.set N (w64 (A+H)).toNat (w64 (y3+(w64 (B*y2))))) (w64 ((w64 (A+H))+1)).toNat (w64 (y4+(w64 (Int.tdiv y5 1000000)))))[(w64 (A+H)).toNat]?) fun _=>
  again (A,B,C,D,E,F,G,w64 (H+1),I,J,K,L,M,List.set (List.set (List.set N (w64 (A+H)).toNat (w64 (y3+(w64 (B*y2))))) (w64 ((w64 (A+H))+1)).toNat (w64 (y4+(w64 (Int.tdiv y5 1000000))))) (w64 (A+H)).toNat (Int.tmod y6 1000000),())
 else
  some (Sum.inr (C,D,E,I,J,K,L,M,N,()))
abbrev At:Type:=(List Int)×Int×Int×Bool×(List Int)×Bool×(List Int)×Bool×(List Int)×Unit
abbrev Ar:Type:=((ay×Unit) ⊕ (Bool×(List Int)×Bool×(List Int)×Unit))
def AE (x1:At) (again:At→Option Ar):Option Ar:=
 match x1 with
 | (A,B,C,D,E,F,G,H,I,_)=>
 bif decide (C<B) then
  Option.bind (idx A C) fun y2=>
  aP (β:=((ay×Unit) ⊕ (Bool×(List Int)×Bool×(List Int)×Unit))) (γ:=((List Int)×Int×Int×Bool×(List Int)×Bool×(List Int)×Bool×(List Int)×Unit)) (
   iter (X:=AA) (β:=AK) (C.natAbs+(Int.natAbs y2+(A.length+(B.natAbs+(C.natAbs+(E.length+(Int.natAbs ((E.length:Int))+(Int.natAbs (0:Int)+(E.length+(G.length+(I.length+2))))))))))) (C,y2,A,B,C,E,(E.length:Int),0,D,E,F,G,H,I,()) (Am)) fun v3=>
  again (v3.1,v3.2.1,w64 (v3.2.2.1+1),v3.2.2.2.1,v3.2.2.2.2.1,v3.2.2.2.2.2.1,v3.2.2.2.2.2.2.1,v3.2.2.2.2.2.2.2.1,v3.2.2.2.2.2.2.2.2.1,())
 else
  some (Sum.inr (F,G,H,I,()))
abbrev yb:Type:=Int×Int×Bool×(List Int)×Bool×(List Int)×Unit
abbrev ye:Type:=((ay×Unit) ⊕ (Bool×(List Int)×Bool×(List Int)×Unit))
def yE (x1:yb) (again:yb→Option ye):Option ye:=
 match x1 with
 | (A,B,C,D,E,F,_)=>
 bif decide (B<A) then
  chk (decide (0≤(w64 (B+1)))&&decide ((w64 (B+1))<(F.length:Int))) <|
  Option.bind (F[(w64 (B+1)).toNat]?) fun y2=>
  chk (decide (0≤B)&&decide (B<(F.length:Int))) <|
  Option.bind (F[B.toNat]?) fun y3=>
  chk (decide (0≤(w64 (B+1)))&&decide ((w64 (B+1))<(F.length:Int))) <|
  Option.bind (F[(w64 (B+1)).toNat]?) fun _=>
  chk (decide (0≤B)&&decide (B<(List.length (List.set F (w64 (B+1)).toNat (w64 (y2+(w64 (Int.tdiv y3 1000000))))):Int))) <|
  Option.bind ((List.set F (w64 (B+1)).toNat (w64 (y2+(w64 (Int.tdiv y3 1000000)))))[B.toNat]?) fun y4=>
  chk (decide (0≤B)&&decide (B<(List.length (List.set F (w64 (B+1)).toNat (w64 (y2+(w64 (Int.tdiv y3 1000000))))):Int))) <|
  Option.bind ((List.set F (w64 (B+1)).toNat (w64 (y2+(w64 (Int.tdiv y3 1000000)))))[B.toNat]?) fun _=>
  again (A,w64 (B+1),C,D,E,List.set (List.set F (w64 (B+1)).toNat (w64 (y2+(w64 (Int.tdiv y3 1000000))))) B.toNat (Int.tmod y4 1000000),())
 else
  some (Sum.inr (C,D,E,F,()))
def gO (a0:ay) (a1:ay):Option (ay×Unit):=
 let n1:Int:=w64 ((w64 (((a0.2.length:Int))+((a1.2.length:Int))))+1)
 chk (decide (0≤n1)&&decide (n1≤n1)&&decide ((8:Int)*n1≤281474976710656)&&decide (n1≤9223372036854775807)) <|
 aP (β:=(ay×Unit)) (γ:=(Bool×(List Int)×Bool×(List Int)×Unit)) (
  iter (X:=At) (β:=Ar) (a0.2.length+(Int.natAbs ((a0.2.length:Int))+(Int.natAbs (0:Int)+(a1.2.length+(List.length ([]:List Int)+(List.length ((List.replicate (Int.toNat n1) 0):List Int)+2)))))) (a0.2,(a0.2.length:Int),0,a1.1,a1.2,false,[], !(a0.1==a1.1),List.replicate (Int.toNat n1) 0,()) (AE)) fun v14=>
 aP (β:=(ay×Unit)) (γ:=(Bool×(List Int)×Bool×(List Int)×Unit)) (
  iter (X:=yb) (β:=ye) (Int.natAbs (w64 (((v14.2.2.2.1.length:Int)) - 1))+(Int.natAbs (0:Int)+(v14.2.1.length+(v14.2.2.2.1.length+2)))) (w64 (((v14.2.2.2.1.length:Int)) - 1),0,v14.1,v14.2.1,v14.2.2.1,v14.2.2.2.1,()) (yE)) fun v21=>
 Option.bind (oZ (v21.2.2.1,v21.2.2.2.1)) fun r22=>
 some (r22.1,())
abbrev EH:Type:=Int×Int×Bool×(List Int)×Bool×(List Int)×Unit
abbrev ET:Type:=((ay×Unit) ⊕ (Bool×(List Int)×Bool×(List Int)×Unit))
def EY (x1:EH) (again:EH→Option ET):Option ET:=
 match x1 with
 | (A,B,C,D,E,F,_)=>
 bif decide (B<A) then
  Option.bind (mg 10) fun r2=>
  Option.bind (gO (E,F) r2.1) fun r3=>
  again (A,w64 (B+1),C,D,r3.1.1,r3.1.2,())
 else
  some (Sum.inr (C,D,E,F,()))
def wQ (a0:Int):Option (ay×Unit):=
 Option.bind (mg 1) fun r1=>
 aP (β:=(ay×Unit)) (γ:=(Bool×(List Int)×Bool×(List Int)×Unit)) (
  iter (X:=EH) (β:=ET) (Int.natAbs a0+(Int.natAbs (0:Int)+(List.length ([]:List Int)+(r1.1.2.length+2)))) (a0,0,false,[],r1.1.1,r1.1.2,()) (EY)) fun v5=>
 some ((v5.2.2.1,v5.2.2.2.1),())
def J2 (a0:ak) (a1:Int):Option (ay×Unit):=
 Option.bind (mg a0.1) fun r1=>
 Option.bind (wQ (w64 (a1 - a0.2))) fun r2=>
 Option.bind (gO r1.1 r2.1) fun r3=>
 some (r3.1,())
abbrev EU:Type:=(List Int)×(List Int)×Int×Unit
abbrev EW:Type:=((Int×Unit) ⊕ Unit)
def zB (x1:EU) (again:EU→Option EW):Option EW:=
 match x1 with
 | (A,B,C,_)=>
 bif decide (C≥0) then
  Option.bind (idx A C) fun y2=>
  Option.bind (idx B C) fun y3=>
  bif y2 != y3 then
   Option.bind (idx A C) fun y4=>
   Option.bind (idx B C) fun y5=>
   some (Sum.inl (w64 (y4 - y5),()))
  else
   again (A,B,w64 (C - 1),())
 else
  some (Sum.inr ())
def Ei (a0:List Int) (a1:List Int):Option (Int×Unit):=
 bif ((List.length a0:Int)) != ((List.length a1:Int)) then
  some (w64 (((List.length a0:Int)) - ((List.length a1:Int))),())
 else
  aP (β:=(Int×Unit)) (γ:=Unit) (
   iter (X:=EU) (β:=EW) (List.length a0+(List.length a1+(Int.natAbs (w64 (((List.length a0:Int)) - 1))+2))) (a0,a1,w64 (((List.length a0:Int)) - 1),()) (zB)) fun _=>
  some (0,())
def xQ (a0:List Int) (a1:Int):Option (Int×Unit):=
 bif decide (a1<((List.length a0:Int))) then
  Option.bind (idx a0 a1) fun y1=>
  some (y1,())
 else
  some (0,())
abbrev CF:Type:=Int×Int×Int×Bool×(List Int)×Bool×(List Int)×Bool×(List Int)×Bool×(List Int)×Unit
abbrev Cz:Type:=((ay×Unit) ⊕ (Bool×(List Int)×Bool×(List Int)×Unit))
def CE (x1:CF) (again:CF→Option Cz):Option Cz:=
 match x1 with
 | (A,B,C,D,E,F,G,H,I,J,K,_)=>
 bif decide (C<B) then
  Option.bind (idx E C) fun y2=>
  Option.bind (xQ G C) fun r3=>
  aP (β:=((ay×Unit) ⊕ (Bool×(List Int)×Bool×(List Int)×Unit))) (γ:=(Int×Int×Int×Int×Bool×(List Int)×Bool×(List Int)×Bool×(List Int)×Bool×(List Int)×Unit)) (
   bif decide ((w64 ((w64 (y2 - r3.1)) - A))<0) then
    let n4:Int:=w64 ((w64 ((w64 (y2 - r3.1)) - A))+1000000)
    some (Sum.inr (1,n4,B,C,D,E,F,G,H,I,J,K,()))
   else
    some (Sum.inr (0,w64 ((w64 (y2 - r3.1)) - A),B,C,D,E,F,G,H,I,J,K,()))) fun v5=>
  chk (decide (((v5.2.2.2.2.2.2.2.2.2.2.2.1.length)+1)*8≤140737488355328)&&decide ((v5.2.2.2.2.2.2.2.2.2.2.2.1.length)+1≤maxLen)) <|
  again (v5.1,v5.2.2.1,w64 (v5.2.2.2.1+1),v5.2.2.2.2.1,v5.2.2.2.2.2.1,v5.2.2.2.2.2.2.1,v5.2.2.2.2.2.2.2.1,v5.2.2.2.2.2.2.2.2.1,v5.2.2.2.2.2.2.2.2.2.1,v5.2.2.2.2.2.2.2.2.2.2.1,v5.2.2.2.2.2.2.2.2.2.2.2.1++[v5.2.1],())
 else
  some (Sum.inr (H,I,J,K,()))
abbrev EA:Type:=Int×Int×Int×Bool×(List Int)×Bool×(List Int)×Bool×(List Int)×Bool×(List Int)×Unit
abbrev EC:Type:=((ay×Unit) ⊕ (Bool×(List Int)×Bool×(List Int)×Unit))
def Ey (x1:EA) (again:EA→Option EC):Option EC:=
 match x1 with
 | (A,B,C,D,E,F,G,H,I,J,K,_)=>
 bif decide (C<B) then
  Option.bind (xQ E C) fun r2=>
  Option.bind (xQ G C) fun r3=>
  let n4:Int:=Int.tmod (w64 ((w64 (r2.1+r3.1))+A)) 1000000
  chk (decide (((K.length)+1)*8≤140737488355328)&&decide ((K.length)+1≤maxLen)) <|
  let n5:Int:=w64 (Int.tdiv (w64 ((w64 (r2.1+r3.1))+A)) 1000000)
  again (n5,B,w64 (C+1),D,E,F,G,H,I,J,K++[n4],())
 else
  some (Sum.inr (H,I,J,K,()))
def yx (a0:ay) (a1:ay):Option (ay×Unit):=
 bif !(a0.1==a1.1) then
  Option.bind (Ei a0.2 a1.2) fun r1=>
  aP (β:=(ay×Unit)) (γ:=(Bool×(List Int)×Bool×(List Int)×Bool×(List Int)×Unit)) (
   bif decide (r1.1<0) then
    some (Sum.inr (a1.1,a1.2,a0.1,a0.2,false,[],()))
   else
    some (Sum.inr (a0.1,a0.2,a1.1,a1.2,false,[],()))) fun v2=>
  aP (β:=(ay×Unit)) (γ:=(Bool×(List Int)×Bool×(List Int)×Unit)) (
   iter (X:=CF) (β:=Cz) (Int.natAbs (0:Int)+(Int.natAbs ((v2.2.1.length:Int))+(Int.natAbs (0:Int)+(v2.2.1.length+(v2.2.2.2.1.length+(v2.2.2.2.2.2.1.length+(List.length ([]:List Int)+2))))))) (0,(v2.2.1.length:Int),0,v2.1,v2.2.1,v2.2.2.1,v2.2.2.2.1,v2.2.2.2.2.1,v2.2.2.2.2.2.1,v2.1,[],()) (CE)) fun v8=>
  Option.bind (oZ (v8.2.2.1,v8.2.2.2.1)) fun r9=>
  some (r9.1,())
 else
  let n10:Int:=w64 ((if ((a1.2.length:Int))>((a0.2.length:Int)) then ((a1.2.length:Int)) else ((a0.2.length:Int)))+1)
  aP (β:=(ay×Unit)) (γ:=(Bool×(List Int)×Bool×(List Int)×Unit)) (
   iter (X:=EA) (β:=EC) (Int.natAbs (0:Int)+(Int.natAbs n10+(Int.natAbs (0:Int)+(a0.2.length+(a1.2.length+(List.length ([]:List Int)+(List.length ([]:List Int)+2))))))) (0,n10,0,a0.1,a0.2,a1.1,a1.2,false,[],a0.1,[],()) (Ey)) fun v16=>
  Option.bind (oZ (v16.2.2.1,v16.2.2.2.1)) fun r17=>
  some (r17.1,())
def uJ (a0:ay):Option (ay×Unit):=
 bif decide (((a0.2.length:Int))>0) then
  some ((!a0.1,a0.2),())
 else
  some (a0,())
def Bm (a0:ay):Option (Int×Unit):=
 bif ((a0.2.length:Int))==0 then
  some (0,())
 else
  bif a0.1 then
   some ((-1),())
  else
   some (1,())
def Ma (a0:ay) (a1:ay):Option (Int×Unit):=
 Option.bind (uJ a1) fun r1=>
 Option.bind (yx a0 r1.1) fun r2=>
 Option.bind (Bm r2.1) fun r3=>
 some (r3.1,())
end Go.Md
namespace Go.Md
open Go.Dn
abbrev Im:Type:=(List UInt8)×Int×Int×Unit
abbrev I7:Type:=((Bool×Unit) ⊕ Unit)
def CR (x1:Im) (again:Im→Option I7):Option I7:=
 match x1 with
 | (A,B,C,_)=>
 bif decide (C<B) then
  Option.bind (Gx A C) fun c2=>
  bif decide ((c2.toNat:Int)<97) then
   bif decide ((c2.toNat:Int)<48) then
    bif (c2.toNat:Int) != 45 then
     some (Sum.inl (false,()))
    else
     again (A,B,w64 (C+1),())
   else
    bif decide ((c2.toNat:Int)>57) then
     bif (c2.toNat:Int) != 45 then
      some (Sum.inl (false,()))
     else
      again (A,B,w64 (C+1),())
    else
     again (A,B,w64 (C+1),())
  else
   bif decide ((c2.toNat:Int)>122) then
    bif decide ((c2.toNat:Int)<48) then
     bif (c2.toNat:Int) != 45 then
      some (Sum.inl (false,()))
     else
      again (A,B,w64 (C+1),())
    else
     bif decide ((c2.toNat:Int)>57) then
      bif (c2.toNat:Int) != 45 then
       some (Sum.inl (false,()))
      else
       again (A,B,w64 (C+1),())
     else
      again (A,B,w64 (C+1),())
   else
    again (A,B,w64 (C+1),())
 else
  some (Sum.inr ())
def Ou (a0:List UInt8):Option (Bool×Unit):=
 bif a0==[] then
  some (false,())
 else
  bif decide (((List.length a0:Int))>40) then
   some (false,())
  else
   Option.bind (Gx a0 0) fun c1=>
   bif decide ((c1.toNat:Int)<97) then
    some (false,())
   else
    Option.bind (Gx a0 0) fun c2=>
    bif decide ((c2.toNat:Int)>122) then
     some (false,())
    else
     aP (β:=(Bool×Unit)) (γ:=Unit) (
      iter (X:=Im) (β:=I7) (List.length a0+(Int.natAbs ((List.length a0:Int))+(Int.natAbs (0:Int)+2))) (a0,(List.length a0:Int),0,()) (CR)) fun _=>
     some (true,())
def pH (a0:List UInt8):Option (Bool×Unit):=
 Option.bind (Ou a0) fun r1=>
 some (r1.1,())
def wX (a0:Int) (a1:Int) (a2:Int):Option (Bool×Unit):=
 bif decide (a1≤a0) then
  some (decide (a0≤a2),())
 else
  some (false,())
def SQ (a0:Int):Option (Bool×Unit):=
 Option.bind (wX a0 1 3652059) fun r1=>
 some (r1.1,())
def Ms (a0:Int):Option (Bool×Unit):=
 Option.bind (SQ a0) fun r1=>
 some (r1.1,())
def lO (a0:ak):Option (Int×Unit):=
 Option.bind (wX a0.1 (-1000000000000000) 1000000000000000) fun r1=>
 bif !r1.1 then
  some (1,())
 else
  Option.bind (wX a0.2 0 9) fun r2=>
  bif !r2.1 then
   some (1,())
  else
   some (0,())
def Lp (a0:ak) (a1:ak):Option (Int×Unit):=
 Option.bind (J2 a0 9) fun r1=>
 Option.bind (J2 a1 9) fun r2=>
 Option.bind (Ma r1.1 r2.1) fun r3=>
 some (r3.1,())
def mZ (a0:ak) (a1:Int) (a2:Int) (a3:Int):Option (Bool×Unit):=
 Option.bind (lO a0) fun r1=>
 bif r1.1==0 then
  bif decide (a0.2≤a3) then
   Option.bind (Lp a0 (a1,0)) fun r2=>
   bif decide (r2.1≥0) then
    Option.bind (Lp a0 (a2,0)) fun r3=>
    some (decide (r3.1≤0),())
   else
    some (false,())
  else
   some (false,())
 else
  some (false,())
def nu (a0:Int) (a1:Int) (a2:Int):Option (Bool×Unit):=
 bif decide (a1≤a0) then
  some (decide (a0≤a2),())
 else
  some (false,())
end Go.Md
