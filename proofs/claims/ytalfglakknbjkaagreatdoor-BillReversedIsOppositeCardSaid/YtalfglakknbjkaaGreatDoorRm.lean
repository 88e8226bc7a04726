/-
  The plain models of the functions that the law reaches, first part. No condition.
-/
import Derived.Test.YtalfglakknbjkaaGreatDoorRd
import Derived.Lib.SlTrimSet
set_option linter.all false
namespace Go.Md
open Go.Dn
def qZ (s c:List UInt8):Option (List UInt8×Unit):=
 bif decide (s.length≤9223372036854775807)&&(decide (c.length<4294967281)&&c.all fun b=>decide (b.toNat<128)) then some (Lib.trimS s c,()) else none
abbrev aU:Ty:=(.st (.pair tI tI))
abbrev ak:Type:=Int×Int
abbrev cy:Ty:=(.st (.pair tI (.pair aU (.slice .str))))
abbrev bG:Type:=Int×ak×(List (List UInt8))
abbrev zI:Ty:=(.st (.pair .str (.pair aU (.pair aU tI))))
abbrev jO:Type:=(List UInt8)×ak×ak×Int
abbrev FN:Type:=Bool×(List Int)
abbrev fN:Ty:=(.st (.pair .str (.pair tI (.pair aU (.pair tI (.pair tI tI))))))
abbrev cE:Type:=(List UInt8)×Int×ak×Int×Int×Int
abbrev aN:Ty:=(.st (.pair fN (.pair tI (.pair tI (.pair tI tI)))))
abbrev ax:Type:=cE×Int×Int×Int×Int
abbrev aj:Ty:=(.st (.pair .bool (.slice (.int .u32))))
abbrev aa:Type:=Bool×(List Int)
def gv (a0:List UInt8):Option (Bool×Unit):=
 bif decide (((List.length a0:Int))<1) then
  some (false,())
 else
  bif decide (((List.length a0:Int))>40) then
   some (false,())
  else
   Option.bind (NK a0 0) fun c1=>
   bif decide ((c1.toNat:Int)<97) then
    some (false,())
   else
    Option.bind (NK a0 0) fun c2=>
    bif decide ((c2.toNat:Int)>122) then
     some (false,())
    else
     Option.bind (qZ a0 [97,98,99,100,101,102,103,104,105,106,107,108,109,110,111,112,113,114,115,116,117,118,119,120,121,122,48,49,50,51,52,53,54,55,56,57,45]) fun r3=>
     some (r3.1==[],())
def Cs (a0:cE) (a1:cE):Option (Bool×Unit):=
 some (a0.1==a1.1,())
abbrev lM:Type:=(List cE)×cE×Int×Int×Unit
abbrev lP:Type:=((Int×Unit) ⊕ Unit)
def Az (x1:lM) (again:lM→Option lP):Option lP:=
 match x1 with
 | (A,B,C,D,_)=>
 bif decide (D<C) then
  Option.bind (idx A D) fun y2=>
  Option.bind (Cs y2 B) fun r3=>
  bif r3.1 then
   some (Sum.inl (D,()))
  else
   again (A,B,C,w64 (D+1),())
 else
  some (Sum.inr ())
def tU (a0:List cE) (a1:cE):Option (Int×Unit):=
 aO (β:=(Int×Unit)) (γ:=Unit) (
  iter (X:=lM) (β:=lP) (List.length a0+(Int.natAbs ((List.length a0:Int))+(Int.natAbs (0:Int)+2))) (a0,a1,(List.length a0:Int),0,()) (Az)) fun _=>
 some ((-1),())
def rD (a0:List cE) (a1:cE):Option (Bool×Unit):=
 Option.bind (tU a0 a1) fun r1=>
 some (decide (r1.1≥0),())
def b6 (a0:Int) (a1:Int) (a2:Int):Option (Bool×Unit):=
 bif decide (a0<a1) then
  some (true,())
 else
  some (decide (a0>a2),())
def yt (a0:Int):Option (Bool×Unit):=
 Option.bind (b6 a0 1 3652059) fun r1=>
 some (!r1.1,())
def bV (a0:ak):Option (Int×Unit):=
 Option.bind (b6 a0.1 (-1000000000000000) 1000000000000000) fun r1=>
 bif r1.1 then
  some (1,())
 else
  Option.bind (b6 a0.2 0 9) fun r2=>
  bif r2.1 then
   some (1,())
  else
   some (0,())
abbrev xG:Type:=Int×Int×Int×Unit
abbrev xI:Type:=((Int×Unit) ⊕ (Int×Unit))
def xN (x1:xG) (again:xG→Option xI):Option xI:=
 bif decide (x1.2.2.1<x1.2.1) then
  again (w64 (x1.1*10),x1.2.1,w64 (x1.2.2.1+1),())
 else
  some (Sum.inr (x1.1,()))
def vu (a0:Int):Option (Int×Unit):=
 aO (β:=(Int×Unit)) (γ:=(Int×Unit)) (
  iter (X:=xG) (β:=xI) (Int.natAbs (1:Int)+(Int.natAbs a0+(Int.natAbs (0:Int)+2))) (1,a0,0,()) (xN)) fun v2=>
 some (v2.1,())
def eV (a0:ak) (a1:Int):Option (Bool×Unit):=
 Option.bind (vu a0.2) fun r1=>
 Option.bind (b6 a0.1 (w64 (0 - (w64 (a1*r1.1)))) (w64 (a1*r1.1))) fun r2=>
 some (!r2.1,())
def p5 (a0:ak):Option (Int×Unit):=
 Option.bind (bV a0) fun r1=>
 bif r1.1 != 0 then
  some (r1.1,())
 else
  bif decide (a0.1≤0) then
   some (1,())
  else
   bif decide (a0.2>4) then
    some (1,())
   else
    Option.bind (eV a0 1000000000) fun r2=>
    bif !r2.1 then
     some (1,())
    else
     some (0,())
abbrev vi:Type:=(List cE)×(List cE)×Int×Int×Unit
abbrev uw:Type:=((Int×Unit) ⊕ Unit)
def IV (x1:vi) (again:vi→Option uw):Option uw:=
 match x1 with
 | (A,B,C,D,_)=>
 bif decide (D<C) then
  Option.bind (idx B D) fun y2=>
  Option.bind (gv y2.1) fun r3=>
  bif !r3.1 then
   some (Sum.inl (5,()))
  else
   chk (decide (0≤(0:Int))&&decide ((0:Int)≤D)&&decide (D≤(A.length:Int))) <|
   Option.bind (rD (List.drop 0 (List.take (Int.toNat D) A)) y2) fun r4=>
   bif r4.1 then
    some (Sum.inl (7,()))
   else
    Option.bind (yt y2.2.1) fun r5=>
    bif !r5.1 then
     some (Sum.inl (1,()))
    else
     bif decide (D>0) then
      Option.bind (idx A (w64 (D - 1))) fun y6=>
      bif decide (y2.2.1<y6.2.1) then
       some (Sum.inl (8,()))
      else
       Option.bind (p5 y2.2.2.1) fun r7=>
       bif r7.1 != 0 then
        some (Sum.inl (r7.1,()))
       else
        Option.bind (b6 y2.2.2.2.1 0 10000) fun r8=>
        bif r8.1 then
         some (Sum.inl (1,()))
        else
         Option.bind (b6 y2.2.2.2.2.1 0 y2.2.2.2.1) fun r9=>
         bif r9.1 then
          some (Sum.inl (1,()))
         else
          Option.bind (b6 y2.2.2.2.2.2 0 1000) fun r10=>
          bif r10.1 then
           some (Sum.inl (1,()))
          else
           again (A,B,C,w64 (D+1),())
     else
      Option.bind (p5 y2.2.2.1) fun r11=>
      bif r11.1 != 0 then
       some (Sum.inl (r11.1,()))
      else
       Option.bind (b6 y2.2.2.2.1 0 10000) fun r12=>
       bif r12.1 then
        some (Sum.inl (1,()))
       else
        Option.bind (b6 y2.2.2.2.2.1 0 y2.2.2.2.1) fun r13=>
        bif r13.1 then
         some (Sum.inl (1,()))
        else
         Option.bind (b6 y2.2.2.2.2.2 0 1000) fun r14=>
         bif r14.1 then
          some (Sum.inl (1,()))
         else
          again (A,B,C,w64 (D+1),())
 else
  some (Sum.inr ())
def EL (a0:List cE):Option (Int×Unit):=
 bif decide (((List.length a0:Int))>200) then
  some (2,())
 else
  aO (β:=(Int×Unit)) (γ:=Unit) (
   iter (X:=vi) (β:=uw) (List.length a0+(List.length a0+(Int.natAbs ((List.length a0:Int))+(Int.natAbs (0:Int)+2)))) (a0,a0,(List.length a0:Int),0,()) (IV)) fun _=>
  some (0,())
abbrev qu:Type:=(List (List UInt8))×(List UInt8)×Int×Int×Unit
abbrev qo:Type:=((Int×Unit) ⊕ Unit)
def Fc (x1:qu) (again:qu→Option qo):Option qo:=
 match x1 with
 | (A,B,C,D,_)=>
 bif decide (D<C) then
  Option.bind (idx A D) fun y2=>
  bif B==y2 then
   some (Sum.inl (D,()))
  else
   again (A,B,C,w64 (D+1),())
 else
  some (Sum.inr ())
def Ai (a0:List (List UInt8)) (a1:List UInt8):Option (Int×Unit):=
 aO (β:=(Int×Unit)) (γ:=Unit) (
  iter (X:=qu) (β:=qo) (List.length a0+(List.length a1+(Int.natAbs ((List.length a0:Int))+(Int.natAbs (0:Int)+2)))) (a0,a1,(List.length a0:Int),0,()) (Fc)) fun _=>
 some ((-1),())
def wQ (a0:List (List UInt8)) (a1:List UInt8):Option (Bool×Unit):=
 Option.bind (Ai a0 a1) fun r1=>
 some (decide (r1.1≥0),())
abbrev mh:Type:=(List bG)×(List bG)×Int×Int×(List (List UInt8))×Int×Int×Int×Int×Int×(List (List UInt8))×Unit
abbrev mg:Type:=(((Int×Unit) ⊕ Unit) ⊕ ((List bG)×(List bG)×Int×Int×Unit))
def wY (x1:mh) (again:mh→Option mg):Option mg:=
 match x1 with
 | (A,B,C,D,E,F,G,H,I,J,K,_)=>
 bif decide (G<F) then
  Option.bind (idx E G) fun y2=>
  Option.bind (gv y2) fun r3=>
  bif !r3.1 then
   Ft <|
    some (Sum.inl (5,()))
  else
   chk (decide (0≤(0:Int))&&decide ((0:Int)≤G)&&decide (G≤(K.length:Int))) <|
   Option.bind (wQ (List.drop 0 (List.take (Int.toNat G) K)) y2) fun r4=>
   bif r4.1 then
    Ft <|
     some (Sum.inl (7,()))
   else
    again (A,B,C,D,E,F,w64 (G+1),H,I,J,K,())
 else
  some (Sum.inr (A,B,C,D,()))
abbrev rG:Type:=(List bG)×(List bG)×Int×Int×Unit
abbrev rA:Type:=((Int×Unit) ⊕ Unit)
def F0 (x1:rG) (again:rG→Option rA):Option rA:=
 match x1 with
 | (A,B,C,D,_)=>
 bif decide (D<C) then
  Option.bind (idx B D) fun y2=>
  Option.bind (yt y2.1) fun r3=>
  bif !r3.1 then
   some (Sum.inl (1,()))
  else
   bif decide (D>0) then
    Option.bind (idx A (w64 (D - 1))) fun y4=>
    bif decide (y2.1<y4.1) then
     some (Sum.inl (8,()))
    else
     Option.bind (p5 y2.2.1) fun r5=>
     bif r5.1 != 0 then
      some (Sum.inl (r5.1,()))
     else
      bif decide (((y2.2.2.length:Int))>100) then
       some (Sum.inl (2,()))
      else
       aO (β:=((Int×Unit) ⊕ Unit)) (γ:=((List bG)×(List bG)×Int×Int×Unit)) (
        iter (X:=mh) (β:=mg) (A.length+(B.length+(C.natAbs+(D.natAbs+(y2.2.2.length+(Int.natAbs ((y2.2.2.length:Int))+(Int.natAbs (0:Int)+(y2.1.natAbs+(y2.2.1.1.natAbs+(y2.2.1.2.natAbs+(y2.2.2.length+2))))))))))) (A,B,C,D,y2.2.2,(y2.2.2.length:Int),0,y2.1,y2.2.1.1,y2.2.1.2,y2.2.2,()) (wY)) fun v6=>
       again (v6.1,v6.2.1,v6.2.2.1,w64 (v6.2.2.2.1+1),())
   else
    Option.bind (p5 y2.2.1) fun r7=>
    bif r7.1 != 0 then
     some (Sum.inl (r7.1,()))
    else
     bif decide (((y2.2.2.length:Int))>100) then
      some (Sum.inl (2,()))
     else
      aO (β:=((Int×Unit) ⊕ Unit)) (γ:=((List bG)×(List bG)×Int×Int×Unit)) (
       iter (X:=mh) (β:=mg) (A.length+(B.length+(C.natAbs+(D.natAbs+(y2.2.2.length+(Int.natAbs ((y2.2.2.length:Int))+(Int.natAbs (0:Int)+(y2.1.natAbs+(y2.2.1.1.natAbs+(y2.2.1.2.natAbs+(y2.2.2.length+2))))))))))) (A,B,C,D,y2.2.2,(y2.2.2.length:Int),0,y2.1,y2.2.1.1,y2.2.1.2,y2.2.2,()) (wY)) fun v8=>
      again (v8.1,v8.2.1,v8.2.2.1,w64 (v8.2.2.2.1+1),())
 else
  some (Sum.inr ())
def Ba (a0:List bG):Option (Int×Unit):=
 bif decide (((List.length a0:Int))>500) then
  some (2,())
 else
  aO (β:=(Int×Unit)) (γ:=Unit) (
   iter (X:=rG) (β:=rA) (List.length a0+(List.length a0+(Int.natAbs ((List.length a0:Int))+(Int.natAbs (0:Int)+2)))) (a0,a0,(List.length a0:Int),0,()) (F0)) fun _=>
  some (0,())
def Gs (a0:List cE) (a1:List bG):Option (Int×Unit):=
 Option.bind (EL a0) fun r1=>
 bif r1.1 != 0 then
  some (r1.1,())
 else
  Option.bind (Ba a1) fun r2=>
  some (r2.1,())
def Hi (a0:ak):Option (Int×Unit):=
 Option.bind (vu (w64 (4 - a0.2))) fun r1=>
 some (w64 (a0.1*r1.1),())
noncomputable def vQ (a0:List (Option Nat)):Option ((List (Option Nat))×Unit):=
 bif List.isEmpty a0 then
  both (
   some ([],())) (
   chk (decide ((0+(List.length a0))*8≤140737488355328)&&decide (0+(List.length a0)≤maxLen)) <|
   some (a0,()))
 else
  chk (decide ((0+(List.length a0))*8≤140737488355328)&&decide (0+(List.length a0)≤maxLen)) <|
  some (a0,())
def AD (a0:Option Nat) (a1:List ax):Option (Int×Unit):=
 Option.bind (a0) fun h1=>
 Option.bind (a1[h1]?) fun y2=>
 Option.bind (a0) fun h3=>
 Option.bind (a1[h3]?) fun y4=>
 some (w64 (y2.1.2.1+y4.1.2.2.2.1),())
def pJ (a0:Option Nat) (a1:Option Nat) (a2:List ax):Option (Int×Unit):=
 Option.bind (AD a0 a2) fun r1=>
 Option.bind (AD a1 a2) fun r2=>
 some (w64 (r1.1 - r2.1),())
abbrev gm:Type:=Int×Int×Unit×Int×Int×(List (Option Nat))×(List ax)×Unit
abbrev gj:Type:=((((List (Option Nat))×Unit) ⊕ ((List (Option Nat))×(List ax)×Unit)) ⊕ (Int×Int×Unit×Int×(List (Option Nat))×(List ax)×Unit))
def rI (x1:gm) (again:gm→Option gj):Option gj:=
 match x1 with
 | (A,B,C,D,E,F,G,_)=>
 bif decide (E>A) then
  chk (decide (0≤E)&&decide (E<(F.length:Int))) <|
  Option.bind (F[E.toNat]?) fun y2=>
  chk (decide (0≤(w64 (E - 1)))&&decide ((w64 (E - 1))<(F.length:Int))) <|
  Option.bind (F[(w64 (E - 1)).toNat]?) fun y3=>
  Option.bind (pJ y2 y3 G) fun r4=>
  bif decide (r4.1<0) then
   chk (decide (0≤(w64 (E - 1)))&&decide ((w64 (E - 1))<(F.length:Int))) <|
   Option.bind (F[(w64 (E - 1)).toNat]?) fun y5=>
   chk (decide (0≤E)&&decide (E<(F.length:Int))) <|
   Option.bind (F[E.toNat]?) fun y6=>
   chk (decide (0≤E)&&decide (E<(F.length:Int))) <|
   Option.bind (F[E.toNat]?) fun _=>
   chk (decide (0≤(w64 (E - 1)))&&decide ((w64 (E - 1))<(List.length (List.set F E.toNat y5):Int))) <|
   Option.bind ((List.set F E.toNat y5)[(w64 (E - 1)).toNat]?) fun _=>
   again (A,B,C,D,w64 (E - 1),List.set (List.set F E.toNat y5) (w64 (E - 1)).toNat y6,G,())
  else
   some (Sum.inr (A,B,C,D,F,G,()))
 else
  some (Sum.inr (A,B,C,D,F,G,()))
abbrev gl:Type:=Int×Int×Unit×Int×(List (Option Nat))×(List ax)×Unit
abbrev gh:Type:=(((List (Option Nat))×Unit) ⊕ ((List (Option Nat))×(List ax)×Unit))
def rL (x1:gl) (again:gl→Option gh):Option gh:=
 match x1 with
 | (A,B,C,D,E,F,_)=>
 bif decide (D<B) then
  aO (β:=(((List (Option Nat))×Unit) ⊕ ((List (Option Nat))×(List ax)×Unit))) (γ:=(Int×Int×Unit×Int×(List (Option Nat))×(List ax)×Unit)) (
   iter (X:=gm) (β:=gj) (A.natAbs+(B.natAbs+(D.natAbs+(D.natAbs+(E.length+2))))) (A,B,C,D,D,E,F,()) (rI)) fun v2=>
  again (v2.1,v2.2.1,v2.2.2.1,w64 (v2.2.2.2.1+1),v2.2.2.2.2.1,v2.2.2.2.2.2.1,())
 else
  some (Sum.inr (E,F,()))
def gG (a0:List (Option Nat)) (a1:Int) (a2:Int) (a3:Unit) (a4:List ax):Option ((List (Option Nat))×Unit):=
 aO (β:=((List (Option Nat))×Unit)) (γ:=((List (Option Nat))×(List ax)×Unit)) (
  iter (X:=gl) (β:=gh) (Int.natAbs a1+(Int.natAbs a2+(Int.natAbs (w64 (a1+1))+(List.length a0+2)))) (a1,a2,a3,w64 (a1+1),a0,a4,()) (rL)) fun v11=>
 some (v11.1,())
abbrev gQ:Type:=Int×Int×Int×Int×(List (Option Nat))×(List ax)×Unit
abbrev gR:Type:=(((List (Option Nat))×Unit) ⊕ ((List (Option Nat))×(List ax)×Unit))
def uk (x1:gQ) (again:gQ→Option gR):Option gR:=
 match x1 with
 | (A,B,C,D,E,F,_)=>
 bif decide (D<C) then
  chk (decide (0≤(w64 (B+D)))&&decide ((w64 (B+D))<(E.length:Int))) <|
  Option.bind (E[(w64 (B+D)).toNat]?) fun y2=>
  chk (decide (0≤(w64 (A+D)))&&decide ((w64 (A+D))<(E.length:Int))) <|
  Option.bind (E[(w64 (A+D)).toNat]?) fun y3=>
  chk (decide (0≤(w64 (A+D)))&&decide ((w64 (A+D))<(E.length:Int))) <|
  Option.bind (E[(w64 (A+D)).toNat]?) fun _=>
  chk (decide (0≤(w64 (B+D)))&&decide ((w64 (B+D))<(List.length (List.set E (w64 (A+D)).toNat y2):Int))) <|
  Option.bind ((List.set E (w64 (A+D)).toNat y2)[(w64 (B+D)).toNat]?) fun _=>
  again (A,B,C,w64 (D+1),List.set (List.set E (w64 (A+D)).toNat y2) (w64 (B+D)).toNat y3,F,())
 else
  some (Sum.inr (E,F,()))
def fO (a0:List (Option Nat)) (a1:Int) (a2:Int) (a3:Int) (_a4:Unit) (a5:List ax):Option ((List (Option Nat))×Unit):=
 aO (β:=((List (Option Nat))×Unit)) (γ:=((List (Option Nat))×(List ax)×Unit)) (
  iter (X:=gQ) (β:=gR) (Int.natAbs a1+(Int.natAbs a2+(Int.natAbs a3+(Int.natAbs (0:Int)+(List.length a0+2))))) (a1,a2,a3,0,a0,a5,()) (uk)) fun v6=>
 some (v6.1,())
abbrev jd:Type:=Int×Unit×Int×Int×(List (Option Nat))×(List ax)×Unit
abbrev ja:Type:=(((List (Option Nat))×Unit) ⊕ (Int×Unit×Int×(List (Option Nat))×(List ax)×Unit))
def wm (x1:jd) (again:jd→Option ja):Option ja:=
 match x1 with
 | (A,B,C,D,E,F,_)=>
 bif C != D then
  bif decide (C>D) then
   Option.bind (fO E (w64 (A - C)) A D B F) fun r2=>
   again (A,B,w64 (C - D),D,r2.1,F,())
  else
   Option.bind (fO E (w64 (A - C)) (w64 ((w64 (A+D)) - C)) C B F) fun r3=>
   again (A,B,C,w64 (D - C),r3.1,F,())
 else
  some (Sum.inr (A,B,C,E,F,()))
def o3 (a0:List (Option Nat)) (a1:Int) (a2:Int) (a3:Int) (a4:Unit) (a5:List ax):Option ((List (Option Nat))×Unit):=
 aO (β:=((List (Option Nat))×Unit)) (γ:=(Int×Unit×Int×(List (Option Nat))×(List ax)×Unit)) (
  iter (X:=jd) (β:=ja) (Int.natAbs a2+(Int.natAbs (w64 (a2 - a1))+(Int.natAbs (w64 (a3 - a2))+(List.length a0+2)))) (a2,a4,w64 (a2 - a1),w64 (a3 - a2),a0,a5,()) (wm)) fun v4=>
 Option.bind (fO v4.2.2.2.1 (w64 (v4.1 - v4.2.2.1)) v4.1 v4.2.2.1 v4.2.1 v4.2.2.2.2.1) fun r5=>
 some (r5.1,())
abbrev iA:Type:=Int×Unit×Int×Int×(List (Option Nat))×(List ax)×Unit
abbrev ig:Type:=(((List (Option Nat))×Unit) ⊕ (Int×Int×(List (Option Nat))×(List ax)×Unit))
def uM (x1:iA) (again:iA→Option ig):Option ig:=
 match x1 with
 | (A,B,C,D,E,F,_)=>
 bif decide (C<D) then
  let n2:Int:=w64 (Int.fdiv (bM (w64 (C+D))) (2 ^ 1))
  chk (decide (0≤n2)&&decide (n2<(E.length:Int))) <|
  Option.bind (E[n2.toNat]?) fun y3=>
  chk (decide (0≤A)&&decide (A<(E.length:Int))) <|
  Option.bind (E[A.toNat]?) fun y4=>
  Option.bind (pJ y3 y4 F) fun r5=>
  bif decide (r5.1<0) then
   again (A,B,w64 (n2+1),D,E,F,())
  else
   again (A,B,C,n2,E,F,())
 else
  some (Sum.inr (A,C,E,F,()))
abbrev iD:Type:=Int×Int×(List (Option Nat))×(List ax)×Unit
abbrev iC:Type:=(((List (Option Nat))×Unit) ⊕ ((List (Option Nat))×(List ax)×Unit))
def uz (x1:iD) (again:iD→Option iC):Option iC:=
 match x1 with
 | (A,B,C,D,_)=>
 bif decide (B<(w64 (A - 1))) then
  chk (decide (0≤(w64 (B+1)))&&decide ((w64 (B+1))<(C.length:Int))) <|
  Option.bind (C[(w64 (B+1)).toNat]?) fun y2=>
  chk (decide (0≤B)&&decide (B<(C.length:Int))) <|
  Option.bind (C[B.toNat]?) fun y3=>
  chk (decide (0≤B)&&decide (B<(C.length:Int))) <|
  Option.bind (C[B.toNat]?) fun _=>
  chk (decide (0≤(w64 (B+1)))&&decide ((w64 (B+1))<(List.length (List.set C B.toNat y2):Int))) <|
  Option.bind ((List.set C B.toNat y2)[(w64 (B+1)).toNat]?) fun _=>
  again (A,w64 (B+1),List.set (List.set C B.toNat y2) (w64 (B+1)).toNat y3,D,())
 else
  some (Sum.inr (C,D,()))
abbrev gS:Type:=Int×Unit×Int×Int×(List (Option Nat))×(List ax)×Unit
abbrev gO:Type:=(((List (Option Nat))×Unit) ⊕ (Int×Int×(List (Option Nat))×(List ax)×Unit))
def uq (x1:gS) (again:gS→Option gO):Option gO:=
 match x1 with
 | (A,B,C,D,E,F,_)=>
 bif decide (C<D) then
  let n2:Int:=w64 (Int.fdiv (bM (w64 (C+D))) (2 ^ 1))
  chk (decide (0≤A)&&decide (A<(E.length:Int))) <|
  Option.bind (E[A.toNat]?) fun y3=>
  chk (decide (0≤n2)&&decide (n2<(E.length:Int))) <|
  Option.bind (E[n2.toNat]?) fun y4=>
  Option.bind (pJ y3 y4 F) fun r5=>
  bif !(decide (r5.1<0)) then
   again (A,B,w64 (n2+1),D,E,F,())
  else
   again (A,B,C,n2,E,F,())
 else
  some (Sum.inr (A,C,E,F,()))
abbrev gT:Type:=Int×Int×(List (Option Nat))×(List ax)×Unit
abbrev gX:Type:=(((List (Option Nat))×Unit) ⊕ ((List (Option Nat))×(List ax)×Unit))
def uj (x1:gT) (again:gT→Option gX):Option gX:=
 match x1 with
 | (A,B,C,D,_)=>
 bif decide (B>A) then
  chk (decide (0≤(w64 (B - 1)))&&decide ((w64 (B - 1))<(C.length:Int))) <|
  Option.bind (C[(w64 (B - 1)).toNat]?) fun y2=>
  chk (decide (0≤B)&&decide (B<(C.length:Int))) <|
  Option.bind (C[B.toNat]?) fun y3=>
  chk (decide (0≤B)&&decide (B<(C.length:Int))) <|
  Option.bind (C[B.toNat]?) fun _=>
  chk (decide (0≤(w64 (B - 1)))&&decide ((w64 (B - 1))<(List.length (List.set C B.toNat y2):Int))) <|
  Option.bind ((List.set C B.toNat y2)[(w64 (B - 1)).toNat]?) fun _=>
  again (A,w64 (B - 1),List.set (List.set C B.toNat y2) (w64 (B - 1)).toNat y3,D,())
 else
  some (Sum.inr (C,D,()))
abbrev gW:Type:=Int×Int×Int×Unit×Int×Int×Int×Int×Int×(List (Option Nat))×(List ax)×Unit
abbrev gU:Type:=(((List (Option Nat))×Unit) ⊕ (Int×Int×Int×Unit×Int×Int×Int×(List (Option Nat))×(List ax)×Unit))
def ur (x1:gW) (again:gW→Option gU):Option gU:=
 match x1 with
 | (A,B,C,D,E,F,G,H,I,J,K,_)=>
 bif decide (G<H) then
  let n2:Int:=w64 (Int.fdiv (bM (w64 (G+H))) (2 ^ 1))
  chk (decide (0≤(w64 (I - n2)))&&decide ((w64 (I - n2))<(J.length:Int))) <|
  Option.bind (J[(w64 (I - n2)).toNat]?) fun y3=>
  chk (decide (0≤n2)&&decide (n2<(J.length:Int))) <|
  Option.bind (J[n2.toNat]?) fun y4=>
  Option.bind (pJ y3 y4 K) fun r5=>
  bif !(decide (r5.1<0)) then
   again (A,B,C,D,E,F,w64 (n2+1),H,I,J,K,())
  else
   again (A,B,C,D,E,F,G,n2,I,J,K,())
 else
  some (Sum.inr (A,B,C,D,E,F,G,J,K,()))
def c8 (self:((List (Option Nat))×Int×Int×Int×Unit×(List ax)×Unit)→Option ((List (Option Nat))×Unit)) (a0:List (Option Nat)) (a1:Int) (a2:Int) (a3:Int) (a4:Unit) (a5:List ax):Option ((List (Option Nat))×Unit):=
 bif (w64 (a2 - a1))==1 then
  aO (β:=((List (Option Nat))×Unit)) (γ:=(Int×Int×(List (Option Nat))×(List ax)×Unit)) (
   iter (X:=iA) (β:=ig) (Int.natAbs a1+(Int.natAbs a2+(Int.natAbs a3+(List.length a0+2)))) (a1,a4,a2,a3,a0,a5,()) (uM)) fun v6=>
  aO (β:=((List (Option Nat))×Unit)) (γ:=((List (Option Nat))×(List ax)×Unit)) (
   iter (X:=iD) (β:=iC) (v6.2.1.natAbs+(v6.1.natAbs+(v6.2.2.1.length+2))) (v6.2.1,v6.1,v6.2.2.1,v6.2.2.2.1,()) (uz)) fun v12=>
  some (v12.1,())
 else
  bif (w64 (a3 - a2))==1 then
   aO (β:=((List (Option Nat))×Unit)) (γ:=(Int×Int×(List (Option Nat))×(List ax)×Unit)) (
    iter (X:=gS) (β:=gO) (Int.natAbs a2+(Int.natAbs a1+(Int.natAbs a2+(List.length a0+2)))) (a2,a4,a1,a2,a0,a5,()) (uq)) fun v18=>
   aO (β:=((List (Option Nat))×Unit)) (γ:=((List (Option Nat))×(List ax)×Unit)) (
    iter (X:=gT) (β:=gX) (v18.2.1.natAbs+(v18.1.natAbs+(v18.2.2.1.length+2))) (v18.2.1,v18.1,v18.2.2.1,v18.2.2.2.1,()) (uj)) fun v24=>
   some (v24.1,())
  else
   let n25:Int:=w64 (Int.fdiv (bM (w64 (a1+a3))) (2 ^ 1))
   aO (β:=((List (Option Nat))×Unit)) (γ:=(Int×Int×Int×Unit×Int×Int×Int×Int×(List (Option Nat))×(List ax)×Unit)) (
    bif decide (a2>n25) then
     some (Sum.inr (a1,a2,a3,a4,n25,w64 (n25+a2),w64 ((w64 (n25+a2)) - a3),n25,a0,a5,()))
    else
     some (Sum.inr (a1,a2,a3,a4,n25,w64 (n25+a2),a1,a2,a0,a5,()))) fun v26=>
   aO (β:=((List (Option Nat))×Unit)) (γ:=(Int×Int×Int×Unit×Int×Int×Int×(List (Option Nat))×(List ax)×Unit)) (
    iter (X:=gW) (β:=gU) (v26.1.natAbs+(v26.2.1.natAbs+(v26.2.2.1.natAbs+(v26.2.2.2.2.1.natAbs+(v26.2.2.2.2.2.1.natAbs+(v26.2.2.2.2.2.2.1.natAbs+(v26.2.2.2.2.2.2.2.1.natAbs+(Int.natAbs (w64 (v26.2.2.2.2.2.1 - 1))+(v26.2.2.2.2.2.2.2.2.1.length+2))))))))) (v26.1,v26.2.1,v26.2.2.1,v26.2.2.2.1,v26.2.2.2.2.1,v26.2.2.2.2.2.1,v26.2.2.2.2.2.2.1,v26.2.2.2.2.2.2.2.1,w64 (v26.2.2.2.2.2.1 - 1),v26.2.2.2.2.2.2.2.2.1,v26.2.2.2.2.2.2.2.2.2.1,()) (ur)) fun v32=>
   bif decide (v32.2.2.2.2.2.2.1<v32.2.1) then
    aO (β:=((List (Option Nat))×Unit)) (γ:=(Int×Int×Unit×Int×Int×Int×(List (Option Nat))×(List ax)×Unit)) (
     bif decide (v32.2.1<(w64 (v32.2.2.2.2.2.1 - v32.2.2.2.2.2.2.1))) then
      Option.bind (o3 v32.2.2.2.2.2.2.2.1 v32.2.2.2.2.2.2.1 v32.2.1 (w64 (v32.2.2.2.2.2.1 - v32.2.2.2.2.2.2.1)) v32.2.2.2.1 v32.2.2.2.2.2.2.2.2.1) fun r33=>
      some (Sum.inr (v32.1,v32.2.2.1,v32.2.2.2.1,v32.2.2.2.2.1,v32.2.2.2.2.2.2.1,w64 (v32.2.2.2.2.2.1 - v32.2.2.2.2.2.2.1),r33.1,v32.2.2.2.2.2.2.2.2.1,()))
     else
      some (Sum.inr (v32.1,v32.2.2.1,v32.2.2.2.1,v32.2.2.2.2.1,v32.2.2.2.2.2.2.1,w64 (v32.2.2.2.2.2.1 - v32.2.2.2.2.2.2.1),v32.2.2.2.2.2.2.2.1,v32.2.2.2.2.2.2.2.2.1,()))) fun v34=>
    bif decide (v34.1<v34.2.2.2.2.1) then
     aO (β:=((List (Option Nat))×Unit)) (γ:=(Int×Unit×Int×Int×(List (Option Nat))×(List ax)×Unit)) (
      bif decide (v34.2.2.2.2.1<v34.2.2.2.1) then
       Option.bind (self (v34.2.2.2.2.2.2.1,v34.1,v34.2.2.2.2.1,v34.2.2.2.1,v34.2.2.1,v34.2.2.2.2.2.2.2.1,())) fun r35=>
       some (Sum.inr (v34.2.1,v34.2.2.1,v34.2.2.2.1,v34.2.2.2.2.2.1,r35.1,v34.2.2.2.2.2.2.2.1,()))
      else
       some (Sum.inr (v34.2.1,v34.2.2.1,v34.2.2.2.1,v34.2.2.2.2.2.1,v34.2.2.2.2.2.2.1,v34.2.2.2.2.2.2.2.1,()))) fun v36=>
     bif decide (v36.2.2.1<v36.2.2.2.1) then
      bif decide (v36.2.2.2.1<v36.1) then
       Option.bind (self (v36.2.2.2.2.1,v36.2.2.1,v36.2.2.2.1,v36.1,v36.2.1,v36.2.2.2.2.2.1,())) fun r37=>
       some (r37.1,())
      else
       some (v36.2.2.2.2.1,())
     else
      some (v36.2.2.2.2.1,())
    else
     bif decide (v34.2.2.2.1<v34.2.2.2.2.2.1) then
      bif decide (v34.2.2.2.2.2.1<v34.2.1) then
       Option.bind (self (v34.2.2.2.2.2.2.1,v34.2.2.2.1,v34.2.2.2.2.2.1,v34.2.1,v34.2.2.1,v34.2.2.2.2.2.2.2.1,())) fun r38=>
       some (r38.1,())
      else
       some (v34.2.2.2.2.2.2.1,())
     else
      some (v34.2.2.2.2.2.2.1,())
   else
    bif decide (v32.1<v32.2.2.2.2.2.2.1) then
     aO (β:=((List (Option Nat))×Unit)) (γ:=(Int×Unit×Int×Int×(List (Option Nat))×(List ax)×Unit)) (
      bif decide (v32.2.2.2.2.2.2.1<v32.2.2.2.2.1) then
       Option.bind (self (v32.2.2.2.2.2.2.2.1,v32.1,v32.2.2.2.2.2.2.1,v32.2.2.2.2.1,v32.2.2.2.1,v32.2.2.2.2.2.2.2.2.1,())) fun r39=>
       some (Sum.inr (v32.2.2.1,v32.2.2.2.1,v32.2.2.2.2.1,w64 (v32.2.2.2.2.2.1 - v32.2.2.2.2.2.2.1),r39.1,v32.2.2.2.2.2.2.2.2.1,()))
      else
       some (Sum.inr (v32.2.2.1,v32.2.2.2.1,v32.2.2.2.2.1,w64 (v32.2.2.2.2.2.1 - v32.2.2.2.2.2.2.1),v32.2.2.2.2.2.2.2.1,v32.2.2.2.2.2.2.2.2.1,()))) fun v40=>
     bif decide (v40.2.2.1<v40.2.2.2.1) then
      bif decide (v40.2.2.2.1<v40.1) then
       Option.bind (self (v40.2.2.2.2.1,v40.2.2.1,v40.2.2.2.1,v40.1,v40.2.1,v40.2.2.2.2.2.1,())) fun r41=>
       some (r41.1,())
      else
       some (v40.2.2.2.2.1,())
     else
      some (v40.2.2.2.2.1,())
    else
     bif decide (v32.2.2.2.2.1<(w64 (v32.2.2.2.2.2.1 - v32.2.2.2.2.2.2.1))) then
      bif decide ((w64 (v32.2.2.2.2.2.1 - v32.2.2.2.2.2.2.1))<v32.2.2.1) then
       Option.bind (self (v32.2.2.2.2.2.2.2.1,v32.2.2.2.2.1,w64 (v32.2.2.2.2.2.1 - v32.2.2.2.2.2.2.1),v32.2.2.1,v32.2.2.2.1,v32.2.2.2.2.2.2.2.2.1,())) fun r42=>
       some (r42.1,())
      else
       some (v32.2.2.2.2.2.2.2.1,())
     else
      some (v32.2.2.2.2.2.2.2.1,())
def lf (a0:List (Option Nat)) (a1:Int) (a2:Int) (a3:Int) (_a4:Unit) (_a5:List ax):Nat:=List.length a0+(Int.natAbs a1+(Int.natAbs a2+(Int.natAbs a3+2)))
def jz (a0:List (Option Nat)) (a1:Int) (a2:Int) (a3:Int) (a4:Unit) (a5:List ax):Option ((List (Option Nat))×Unit):=
 Am (fun self x=>c8 self x.1 x.2.1 x.2.2.1 x.2.2.2.1 x.2.2.2.2.1 x.2.2.2.2.2.1) (lf a0 a1 a2 a3 a4 a5) (a0,a1,a2,a3,a4,a5,())
abbrev jb:Type:=Int×Unit×Int×Int×Int×(List (Option Nat))×(List ax)×Unit
abbrev iY:Type:=(((List (Option Nat))×Unit) ⊕ (Int×Unit×Int×Int×(List (Option Nat))×(List ax)×Unit))
def vU (x1:jb) (again:jb→Option iY):Option iY:=
 match x1 with
 | (A,B,C,D,E,F,G,_)=>
 bif decide (E≤A) then
  Option.bind (gG F D E B G) fun r2=>
  again (A,B,C,E,w64 (E+C),r2.1,G,())
 else
  some (Sum.inr (A,B,C,D,F,G,()))
abbrev iW:Type:=Int×Unit×Int×Int×Int×(List (Option Nat))×(List ax)×Unit
abbrev je:Type:=((((List (Option Nat))×Unit) ⊕ ((List (Option Nat))×(List ax)×Unit)) ⊕ (Int×Unit×Int×Int×(List (Option Nat))×(List ax)×Unit))
def vV (x1:iW) (again:iW→Option je):Option je:=
 match x1 with
 | (A,B,C,D,E,F,G,_)=>
 bif decide (E≤A) then
  Option.bind (jz F D (w64 (D+C)) E B G) fun r2=>
  again (A,B,C,E,w64 (E+(w64 (2*C))),r2.1,G,())
 else
  some (Sum.inr (A,B,C,D,F,G,()))
abbrev iX:Type:=Int×Unit×Int×(List (Option Nat))×(List ax)×Unit
abbrev jf:Type:=(((List (Option Nat))×Unit) ⊕ ((List (Option Nat))×(List ax)×Unit))
def vY (x1:iX) (again:iX→Option jf):Option jf:=
 match x1 with
 | (A,B,C,D,E,_)=>
 bif decide (C<A) then
  aO (β:=(((List (Option Nat))×Unit) ⊕ ((List (Option Nat))×(List ax)×Unit))) (γ:=(Int×Unit×Int×Int×(List (Option Nat))×(List ax)×Unit)) (
   iter (X:=iW) (β:=je) (A.natAbs+(C.natAbs+(Int.natAbs (0:Int)+(Int.natAbs (w64 (2*C))+(D.length+2))))) (A,B,C,0,w64 (2*C),D,E,()) (vV)) fun v2=>
  bif decide ((w64 (v2.2.2.2.1+v2.2.2.1))<v2.1) then
   Option.bind (jz v2.2.2.2.2.1 v2.2.2.2.1 (w64 (v2.2.2.2.1+v2.2.2.1)) v2.1 v2.2.1 v2.2.2.2.2.2.1) fun r3=>
   again (v2.1,v2.2.1,w64 (v2.2.2.1*2),r3.1,v2.2.2.2.2.2.1,())
  else
   again (v2.1,v2.2.1,w64 (v2.2.2.1*2),v2.2.2.2.2.1,v2.2.2.2.2.2.1,())
 else
  some (Sum.inr (D,E,()))
def oZ (a0:List (Option Nat)) (a1:Int) (a2:Unit) (a3:List ax):Option ((List (Option Nat))×Unit):=
 aO (β:=((List (Option Nat))×Unit)) (γ:=(Int×Unit×Int×Int×(List (Option Nat))×(List ax)×Unit)) (
  iter (X:=jb) (β:=iY) (Int.natAbs a1+(Int.natAbs (20:Int)+(Int.natAbs (0:Int)+(Int.natAbs (20:Int)+(List.length a0+2))))) (a1,a2,20,0,20,a0,a3,()) (vU)) fun v3=>
 Option.bind (gG v3.2.2.2.2.1 v3.2.2.2.1 v3.1 v3.2.1 v3.2.2.2.2.2.1) fun r4=>
 aO (β:=((List (Option Nat))×Unit)) (γ:=((List (Option Nat))×(List ax)×Unit)) (
  iter (X:=iX) (β:=jf) (v3.1.natAbs+(v3.2.2.1.natAbs+(r4.1.length+2))) (v3.1,v3.2.1,v3.2.2.1,r4.1,v3.2.2.2.2.2.1,()) (vY)) fun v10=>
 some (v10.1,())
def oF (a0:List (Option Nat)) (a1:Unit) (a2:List ax):Option ((List (Option Nat))×Unit):=
 Option.bind (oZ a0 ((List.length a0:Int)) a1 a2) fun r1=>
 some (r1.1,())
def zB (a0:Option Nat) (a1:Int) (a2:List ax):Option (Bool×Unit):=
 Option.bind (a0) fun h1=>
 Option.bind (a2[h1]?) fun y2=>
 bif decide (y2.1.2.1≤a1) then
  Option.bind (a0) fun h3=>
  Option.bind (a2[h3]?) fun y4=>
  some (y4.2.2.2.2==0,())
 else
  some (false,())
def BV (a0:Option Nat) (a1:List ax):Option (Int×Unit):=
 Option.bind (a0) fun h1=>
 Option.bind (a1[h1]?) fun y2=>
 Option.bind (a0) fun h3=>
 Option.bind (a1[h3]?) fun y4=>
 Option.bind (a0) fun h5=>
 Option.bind (a1[h5]?) fun y6=>
 Option.bind (vu (w64 (4 - y6.1.2.2.1.2))) fun r7=>
 let n8:Int:=w64 ((w64 (Int.tdiv (w64 (y2.1.2.2.1.1*y4.1.2.2.2.2.2)) 1000))*r7.1)
 Option.bind (a0) fun h9=>
 Option.bind (a1[h9]?) fun y10=>
 some (if y10.2.1<n8 then y10.2.1 else n8,())
def xF (a0:Option Nat) (a1:Int) (a2:Int) (a3:List ax):Option (Int×(List ax)×Unit):=
 Option.bind (a0) fun h1=>
 Option.bind (a3[h1]?) fun y2=>
 Option.bind (a0) fun h3=>
 Option.bind (a3[h3]?) fun y4=>
 Option.bind (a0) fun h5=>
 Option.bind (a3[h5]?) fun y6=>
 Option.bind (a0) fun h7=>
 Option.bind (a3[h7]?) fun y8=>
 Option.bind (a0) fun h9=>
 Option.bind ((List.set a3 h7 (y8.1,y8.2.1,w64 (y4.2.2.1+(if y2.2.1<a1 then y2.2.1 else a1)),y8.2.2.2))[h9]?) fun y10=>
 Option.bind (a0) fun h11=>
 Option.bind ((List.set (List.set a3 h7 (y8.1,y8.2.1,w64 (y4.2.2.1+(if y2.2.1<a1 then y2.2.1 else a1)),y8.2.2.2)) h9 (y10.1,w64 (y6.2.1 - (if y2.2.1<a1 then y2.2.1 else a1)),y10.2.2))[h11]?) fun y12=>
 bif y12.2.1==0 then
  Option.bind (a0) fun h13=>
  Option.bind ((List.set (List.set a3 h7 (y8.1,y8.2.1,w64 (y4.2.2.1+(if y2.2.1<a1 then y2.2.1 else a1)),y8.2.2.2)) h9 (y10.1,w64 (y6.2.1 - (if y2.2.1<a1 then y2.2.1 else a1)),y10.2.2))[h13]?) fun y14=>
  some (w64 (a1 - (if y2.2.1<a1 then y2.2.1 else a1)),List.set (List.set (List.set a3 h7 (y8.1,y8.2.1,w64 (y4.2.2.1+(if y2.2.1<a1 then y2.2.1 else a1)),y8.2.2.2)) h9 (y10.1,w64 (y6.2.1 - (if y2.2.1<a1 then y2.2.1 else a1)),y10.2.2)) h13 (y14.1,y14.2.1,y14.2.2.1,y14.2.2.2.1,a2),())
 else
  some (w64 (a1 - (if y2.2.1<a1 then y2.2.1 else a1)),List.set (List.set a3 h7 (y8.1,y8.2.1,w64 (y4.2.2.1+(if y2.2.1<a1 then y2.2.1 else a1)),y8.2.2.2)) h9 (y10.1,w64 (y6.2.1 - (if y2.2.1<a1 then y2.2.1 else a1)),y10.2.2),())
def Et (a0:Option Nat) (a1:Int) (a2:Int) (a3:List ax):Option (Int×(List ax)×Unit):=
 Option.bind (BV a0 a3) fun r1=>
 Option.bind (a0) fun h2=>
 Option.bind (a3[h2]?) fun y3=>
 bif decide ((w64 (y3.2.1 - r1.1))>a1) then
  Option.bind (xF a0 a1 a2 a3) fun r4=>
  some (r4.1,r4.2.1,())
 else
  Option.bind (a0) fun h5=>
  Option.bind (a3[h5]?) fun y6=>
  Option.bind (a0) fun h7=>
  Option.bind (a3[h7]?) fun y8=>
  bif decide (a2>(w64 (y6.1.2.1+y8.1.2.2.2.2.1))) then
   Option.bind (xF a0 a1 a2 a3) fun r9=>
   some (r9.1,r9.2.1,())
  else
   Option.bind (a0) fun h10=>
   Option.bind (a3[h10]?) fun y11=>
   Option.bind (a0) fun h12=>
   Option.bind (a3[h12]?) fun y13=>
   Option.bind (a0) fun h14=>
   Option.bind (a3[h14]?) fun y15=>
   Option.bind (a0) fun h16=>
   Option.bind ((List.set a3 h14 (y15.1,y15.2.1,w64 (y13.2.2.1+(w64 (y11.2.1 - r1.1))),y15.2.2.2))[h16]?) fun y17=>
   Option.bind (a0) fun h18=>
   Option.bind ((List.set (List.set a3 h14 (y15.1,y15.2.1,w64 (y13.2.2.1+(w64 (y11.2.1 - r1.1))),y15.2.2.2)) h16 (y17.1,y17.2.1,y17.2.2.1,r1.1,y17.2.2.2.2))[h18]?) fun y19=>
   Option.bind (a0) fun h20=>
   Option.bind ((List.set (List.set (List.set a3 h14 (y15.1,y15.2.1,w64 (y13.2.2.1+(w64 (y11.2.1 - r1.1))),y15.2.2.2)) h16 (y17.1,y17.2.1,y17.2.2.1,r1.1,y17.2.2.2.2)) h18 (y19.1,0,y19.2.2))[h20]?) fun y21=>
   some (w64 (a1 - (w64 (y11.2.1 - r1.1))),List.set (List.set (List.set (List.set a3 h14 (y15.1,y15.2.1,w64 (y13.2.2.1+(w64 (y11.2.1 - r1.1))),y15.2.2.2)) h16 (y17.1,y17.2.1,y17.2.2.1,r1.1,y17.2.2.2.2)) h18 (y19.1,0,y19.2.2)) h20 (y21.1,y21.2.1,y21.2.2.1,y21.2.2.2.1,a2),())
abbrev xY:Type:=(List bG)×Int×(List (Option Nat))×(List cE)×Int×Int×(List ((List UInt8)×(Option Nat)))×(List ax)×Unit
abbrev yd:Type:=(((List (Option Nat))×(List Int)×(List ax)×Unit) ⊕ ((List bG)×Int×(List (Option Nat))×(List ((List UInt8)×(Option Nat)))×(List ax)×Unit))
noncomputable def K9 (x1:xY) (again:xY→Option yd):Option yd:=
 match x1 with
 | (A,B,C,D,E,F,G,H,_)=>
 bif decide (F<E) then
  Option.bind (idx D F) fun y2=>
  Option.bind (Hi y2.2.2.1) fun r3=>
  chk (decide (((C.length)+1)*8≤140737488355328)&&decide ((C.length)+1≤maxLen)) <|
  again (A,B,C++[(some (H.length))],D,E,w64 (F+1),E9 (k:= .str) (v:= .hnd) G y2.1 (some (H.length)),H++[(y2,r3.1,0,0,0)],())
 else
  some (Sum.inr (A,B,C,G,H,()))
abbrev wL:Type:=Int×(List (Option Nat))×(List Int)×Int×(List bG)×Int×Int×(List (List UInt8))×Int×Int×Int×Int×Int×(List (List UInt8))×(List (Option Nat))×(List ((List UInt8)×(Option Nat)))×(List ax)×Unit
abbrev wD:Type:=((((List (Option Nat))×(List Int)×(List ax)×Unit) ⊕ ((List (Option Nat))×(List Int)×(List ax)×Unit)) ⊕ (Int×(List (Option Nat))×(List Int)×Int×(List bG)×Int×Int×Int×Int×Int×(List (List UInt8))×(List (Option Nat))×(List ((List UInt8)×(Option Nat)))×(List ax)×Unit))
noncomputable def Kf (x1:wL) (again:wL→Option wD):Option wD:=
 match x1 with
 | (A,B,C,D,E,F,G,H,I,J,K,L,M,N,O,P,Q,_)=>
 bif decide (J<I) then
  Option.bind (idx H J) fun y2=>
  bif !(Option.isNone (Option.getD (AH (k:= .str) (v:= .hnd) P y2) none)) then
   Option.bind (zB (Option.getD (AH (k:= .str) (v:= .hnd) P y2) none) K Q) fun r3=>
   bif r3.1 then
    Option.bind (Et (Option.getD (AH (k:= .str) (v:= .hnd) P y2) none) D K Q) fun r4=>
    again (A,B,C,r4.1,E,F,G,H,I,w64 (J+1),K,L,M,N,O,P,r4.2.1,())
   else
    again (A,B,C,D,E,F,G,H,I,w64 (J+1),K,L,M,N,O,P,Q,())
  else
   again (A,B,C,D,E,F,G,H,I,w64 (J+1),K,L,M,N,O,P,Q,())
 else
  some (Sum.inr (A,B,C,D,E,F,G,K,L,M,N,O,P,Q,()))
abbrev wJ:Type:=Int×(List (Option Nat))×(List Int)×Int×(List bG)×Int×Int×Int×Int×Int×Int×Int×(List (List UInt8))×(List (Option Nat))×(List ((List UInt8)×(Option Nat)))×(List ax)×Unit
abbrev wk:Type:=((((List (Option Nat))×(List Int)×(List ax)×Unit) ⊕ ((List (Option Nat))×(List Int)×(List ax)×Unit)) ⊕ (Int×(List (Option Nat))×(List Int)×Int×(List bG)×Int×Int×(List (Option Nat))×(List ((List UInt8)×(Option Nat)))×(List ax)×Unit))
noncomputable def Ks (x1:wJ) (again:wJ→Option wk):Option wk:=
 match x1 with
 | (A,B,C,D,E,F,G,H,I,J,K,L,M,N,O,P,_)=>
 bif decide (I<H) then
  chk (decide (0≤I)&&decide (I<(N.length:Int))) <|
  Option.bind (N[I.toNat]?) fun y2=>
  bif decide (D>0) then
   Option.bind (zB y2 J P) fun r3=>
   bif r3.1 then
    Option.bind (xF y2 D J P) fun r4=>
    again (A,B,C,r4.1,E,F,G,H,w64 (I+1),J,K,L,M,N,O,r4.2.1,())
   else
    again (A,B,C,D,E,F,G,H,w64 (I+1),J,K,L,M,N,O,P,())
  else
   again (A,B,C,D,E,F,G,H,w64 (I+1),J,K,L,M,N,O,P,())
 else
  some (Sum.inr (A,B,C,D,E,F,G,N,O,P,()))
abbrev wM:Type:=Int×(List (Option Nat))×(List Int)×(List bG)×Int×Int×(List (Option Nat))×(List ((List UInt8)×(Option Nat)))×(List ax)×Unit
abbrev wE:Type:=(((List (Option Nat))×(List Int)×(List ax)×Unit) ⊕ ((List (Option Nat))×(List Int)×(List ax)×Unit))
noncomputable def Kq (x1:wM) (again:wM→Option wE):Option wE:=
 match x1 with
 | (A,B,C,D,E,F,G,H,I,_)=>
 bif decide (F<E) then
  Option.bind (idx D F) fun y2=>
  bif decide (y2.1>A) then
   some (Sum.inr (B,C,I,()))
  else
   Option.bind (Hi y2.2.1) fun r3=>
   aO (β:=(((List (Option Nat))×(List Int)×(List ax)×Unit) ⊕ ((List (Option Nat))×(List Int)×(List ax)×Unit))) (γ:=(Int×(List (Option Nat))×(List Int)×Int×(List bG)×Int×Int×Int×Int×Int×(List (List UInt8))×(List (Option Nat))×(List ((List UInt8)×(Option Nat)))×(List ax)×Unit)) (
    iter (X:=wL) (β:=wD) (A.natAbs+(B.length+(C.length+(r3.1.natAbs+(D.length+(E.natAbs+(F.natAbs+(y2.2.2.length+(Int.natAbs ((y2.2.2.length:Int))+(Int.natAbs (0:Int)+(y2.1.natAbs+(y2.2.1.1.natAbs+(y2.2.1.2.natAbs+(y2.2.2.length+(G.length+(H.length+(I.length+2))))))))))))))))) (A,B,C,r3.1,D,E,F,y2.2.2,(y2.2.2.length:Int),0,y2.1,y2.2.1.1,y2.2.1.2,y2.2.2,G,H,I,()) (Kf)) fun v4=>
   aO (β:=(((List (Option Nat))×(List Int)×(List ax)×Unit) ⊕ ((List (Option Nat))×(List Int)×(List ax)×Unit))) (γ:=(Int×(List (Option Nat))×(List Int)×Int×(List bG)×Int×Int×(List (Option Nat))×(List ((List UInt8)×(Option Nat)))×(List ax)×Unit)) (
    iter (X:=wJ) (β:=wk) (v4.1.natAbs+(v4.2.1.length+(v4.2.2.1.length+(v4.2.2.2.1.natAbs+(v4.2.2.2.2.1.length+(v4.2.2.2.2.2.1.natAbs+(v4.2.2.2.2.2.2.1.natAbs+(Int.natAbs ((v4.2.2.2.2.2.2.2.2.2.2.2.1.length:Int))+(Int.natAbs (0:Int)+(v4.2.2.2.2.2.2.2.1.natAbs+(v4.2.2.2.2.2.2.2.2.1.natAbs+(v4.2.2.2.2.2.2.2.2.2.1.natAbs+(v4.2.2.2.2.2.2.2.2.2.2.1.length+(v4.2.2.2.2.2.2.2.2.2.2.2.1.length+(v4.2.2.2.2.2.2.2.2.2.2.2.2.1.length+(v4.2.2.2.2.2.2.2.2.2.2.2.2.2.1.length+2)))))))))))))))) (v4.1,v4.2.1,v4.2.2.1,v4.2.2.2.1,v4.2.2.2.2.1,v4.2.2.2.2.2.1,v4.2.2.2.2.2.2.1,(v4.2.2.2.2.2.2.2.2.2.2.2.1.length:Int),0,v4.2.2.2.2.2.2.2.1,v4.2.2.2.2.2.2.2.2.1,v4.2.2.2.2.2.2.2.2.2.1,v4.2.2.2.2.2.2.2.2.2.2.1,v4.2.2.2.2.2.2.2.2.2.2.2.1,v4.2.2.2.2.2.2.2.2.2.2.2.2.1,v4.2.2.2.2.2.2.2.2.2.2.2.2.2.1,()) (Ks)) fun v5=>
   chk (decide (((v5.2.2.1.length)+1)*8≤140737488355328)&&decide ((v5.2.2.1.length)+1≤maxLen)) <|
   again (v5.1,v5.2.1,v5.2.2.1++[v5.2.2.2.1],v5.2.2.2.2.1,v5.2.2.2.2.2.1,w64 (v5.2.2.2.2.2.2.1+1),v5.2.2.2.2.2.2.2.1,v5.2.2.2.2.2.2.2.2.1,v5.2.2.2.2.2.2.2.2.2.1,())
 else
  some (Sum.inr (B,C,I,()))
noncomputable def HL (a0:List cE) (a1:List bG) (a2:Int) (a3:List ax):Option ((List (Option Nat))×(List Int)×(List ax)×Unit):=
 aO (β:=((List (Option Nat))×(List Int)×(List ax)×Unit)) (γ:=((List bG)×Int×(List (Option Nat))×(List ((List UInt8)×(Option Nat)))×(List ax)×Unit)) (
  iter (X:=xY) (β:=yd) (List.length a1+(Int.natAbs a2+(List.length ([]:List (Option Nat))+(List.length a0+(Int.natAbs ((List.length a0:Int))+(Int.natAbs (0:Int)+(List.length ([]:List ((List UInt8)×(Option Nat)))+(List.length a3+2)))))))) (a1,a2,[],a0,(List.length a0:Int),0,[],a3,()) (K9)) fun v4=>
 Option.bind (vQ v4.2.2.1) fun r5=>
 Option.bind (oF r5.1 () v4.2.2.2.2.1) fun r6=>
 aO (β:=((List (Option Nat))×(List Int)×(List ax)×Unit)) (γ:=((List (Option Nat))×(List Int)×(List ax)×Unit)) (
  iter (X:=wM) (β:=wE) (v4.2.1.natAbs+(v4.2.2.1.length+(List.length ([]:List Int)+(v4.1.length+(Int.natAbs ((v4.1.length:Int))+(Int.natAbs (0:Int)+(r6.1.length+(v4.2.2.2.1.length+(v4.2.2.2.2.1.length+2))))))))) (v4.2.1,v4.2.2.1,[],v4.1,(v4.1.length:Int),0,r6.1,v4.2.2.2.1,v4.2.2.2.2.1,()) (Kq)) fun v20=>
 some (v20.1,v20.2.1,v20.2.2.1,())
abbrev oH:Type:=(List Int)×Unit
abbrev xT:Type:=(((List Int)×Unit) ⊕ ((List Int)×Unit))
def xW (x1:oH) (again:oH→Option xT):Option xT:=
 bif decide (((x1.1.length:Int))>0) then
  Option.bind (idx x1.1 (w64 (((x1.1.length:Int)) - 1))) fun y2=>
  bif y2==0 then
   chk (decide (0≤(0:Int))&&decide ((0:Int)≤(w64 (((x1.1.length:Int)) - 1)))&&decide ((w64 (((x1.1.length:Int)) - 1))≤(x1.1.length:Int))) <|
   again (List.drop 0 (List.take (Int.toNat (w64 (((x1.1.length:Int)) - 1))) x1.1),())
  else
   some (Sum.inr (x1.1,()))
 else
  some (Sum.inr (x1.1,()))
def pG (a0:List Int):Option ((List Int)×Unit):=
 aO (β:=((List Int)×Unit)) (γ:=((List Int)×Unit)) (
  iter (X:=oH) (β:=xT) (List.length a0+2) (a0,()) (xW)) fun v3=>
 some (v3.1,())
def iO (a0:Bool) (a1:List Int):Option (aa×Unit):=
 Option.bind (pG a1) fun r1=>
 bif a0 then
  some ((decide (((r1.1.length:Int))>0),r1.1),())
 else
  some ((false,r1.1),())
def bA (a0:Int):Option (aa×Unit):=
 aO (β:=(aa×Unit)) (γ:=(Int×Int×Bool×(List Int)×Unit)) (
  bif decide (a0<0) then
   some (Sum.inr (a0,bM (0 - (bM a0)),false,[],()))
  else
   some (Sum.inr (a0,bM a0,false,[],()))) fun v1=>
 Option.bind (iO (decide (v1.1<0)) [(mB v1.2.1),(mB (Int.fdiv v1.2.1 (2 ^ 32)))]) fun r2=>
 some (r2.1,())
abbrev uE:Type:=(List Int)×(List Int)×Int×(List Int)×Int×Int×Unit
abbrev vq:Type:=(((List Int)×Unit) ⊕ ((List Int)×Int×Unit))
def uU (x1:uE) (again:uE→Option vq):Option vq:=
 match x1 with
 | (A,B,C,D,E,F,_)=>
 bif decide (F<E) then
  Option.bind (idx D F) fun y2=>
  aO (β:=(((List Int)×Unit) ⊕ ((List Int)×Int×Unit))) (γ:=((List Int)×(List Int)×Int×(List Int)×Int×Int×Unit)) (
   bif decide (F<((A.length:Int))) then
    Option.bind (idx A F) fun y3=>
    let n4:Int:=bM ((bM (C+(bM y2)))+(bM y3))
    some (Sum.inr (A,B,n4,D,E,F,()))
   else
    some (Sum.inr (A,B,bM (C+(bM y2)),D,E,F,()))) fun v5=>
  chk (decide (((v5.2.1.length)+1)*4≤140737488355328)&&decide ((v5.2.1.length)+1≤maxLen)) <|
  again (v5.1,v5.2.1++[(mB v5.2.2.1)],Int.fdiv v5.2.2.1 (2 ^ 32),v5.2.2.2.1,v5.2.2.2.2.1,w64 (v5.2.2.2.2.2.1+1),())
 else
  some (Sum.inr (B,C,()))
def Bh (a0:List Int) (a1:List Int):Option ((List Int)×Unit):=
 aO (β:=((List Int)×Unit)) (γ:=((List Int)×(List Int)×Unit)) (
  bif decide (((List.length a0:Int))<((List.length a1:Int))) then
   some (Sum.inr (a1,a0,()))
  else
   some (Sum.inr (a0,a1,()))) fun v1=>
 chk (decide (0≤(0:Int))&&decide ((0:Int)≤(w64 (((v1.1.length:Int))+1)))&&decide ((4:Int)*(w64 (((v1.1.length:Int))+1))≤281474976710656)&&decide ((w64 (((v1.1.length:Int))+1))≤9223372036854775807)) <|
 aO (β:=((List Int)×Unit)) (γ:=((List Int)×Int×Unit)) (
  iter (X:=uE) (β:=vq) (v1.2.1.length+(List.length ([]:List Int)+(Int.natAbs (0:Int)+(v1.1.length+(Int.natAbs ((v1.1.length:Int))+(Int.natAbs (0:Int)+2)))))) (v1.2.1,[],0,v1.1,(v1.1.length:Int),0,()) (uU)) fun v7=>
 chk (decide (((v7.1.length)+1)*4≤140737488355328)&&decide ((v7.1.length)+1≤maxLen)) <|
 some (v7.1++[(mB v7.2.1)],())
abbrev sr:Type:=(List Int)×(List Int)×Int×Unit
abbrev rZ:Type:=((Int×Unit) ⊕ Unit)
def ot (x1:sr) (again:sr→Option rZ):Option rZ:=
 match x1 with
 | (A,B,C,_)=>
 bif decide (C≥0) then
  Option.bind (idx A C) fun y2=>
  Option.bind (idx B C) fun y3=>
  bif y2 != y3 then
   Option.bind (idx A C) fun y4=>
   Option.bind (idx B C) fun y5=>
   bif decide (y4<y5) then
    some (Sum.inl ((-1),()))
   else
    some (Sum.inl (1,()))
  else
   again (A,B,w64 (C - 1),())
 else
  some (Sum.inr ())
def s9 (a0:List Int) (a1:List Int):Option (Int×Unit):=
 bif ((List.length a0:Int)) != ((List.length a1:Int)) then
  some (w64 (((List.length a0:Int)) - ((List.length a1:Int))),())
 else
  aO (β:=(Int×Unit)) (γ:=Unit) (
   iter (X:=sr) (β:=rZ) (List.length a0+(List.length a1+(Int.natAbs (w64 (((List.length a0:Int)) - 1))+2))) (a0,a1,w64 (((List.length a0:Int)) - 1),()) (ot)) fun _=>
  some (0,())
abbrev xO:Type:=(List Int)×(List Int)×Int×(List Int)×Int×Int×Unit
abbrev xB:Type:=(((List Int)×Unit) ⊕ ((List Int)×Unit))
def xP (x1:xO) (again:xO→Option xB):Option xB:=
 match x1 with
 | (A,B,C,D,E,F,_)=>
 bif decide (F<E) then
  Option.bind (idx D F) fun y2=>
  aO (β:=(((List Int)×Unit) ⊕ ((List Int)×Unit))) (γ:=((List Int)×(List Int)×Int×(List Int)×Int×Int×Unit)) (
   bif decide (F<((A.length:Int))) then
    Option.bind (idx A F) fun y3=>
    let n4:Int:=bM ((bM ((bM y2) - C)) - (bM y3))
    some (Sum.inr (A,B,n4,D,E,F,()))
   else
    some (Sum.inr (A,B,bM ((bM y2) - C),D,E,F,()))) fun v5=>
  chk (decide (((v5.2.1.length)+1)*4≤140737488355328)&&decide ((v5.2.1.length)+1≤maxLen)) <|
  again (v5.1,v5.2.1++[(mB v5.2.2.1)],bM (((BitVec.ofInt (IntKind.bits .u64) (Int.fdiv v5.2.2.1 (2 ^ 32)) &&& BitVec.ofInt (IntKind.bits .u64) 1).toNat:Int)),v5.2.2.2.1,v5.2.2.2.2.1,w64 (v5.2.2.2.2.2.1+1),())
 else
  some (Sum.inr (B,()))
def vD (a0:List Int) (a1:List Int):Option ((List Int)×Unit):=
 chk (decide (0≤(0:Int))&&decide ((0:Int)≤((List.length a0:Int)))&&decide ((4:Int)*((List.length a0:Int))≤281474976710656)&&decide (((List.length a0:Int))≤9223372036854775807)) <|
 aO (β:=((List Int)×Unit)) (γ:=((List Int)×Unit)) (
  iter (X:=xO) (β:=xB) (List.length a1+(List.length ([]:List Int)+(Int.natAbs (0:Int)+(List.length a0+(Int.natAbs ((List.length a0:Int))+(Int.natAbs (0:Int)+2)))))) (a1,[],0,a0,(List.length a0:Int),0,()) (xP)) fun v6=>
 Option.bind (pG v6.1) fun r7=>
 some (r7.1,())
abbrev tT:Type:=(List Int)×Int×Bool×(List Int)×Bool×(List Int)×Bool×(List Int)×Bool×(List Int)×(List Int)×Unit
abbrev tN:Type:=((aa×aa×Unit) ⊕ ((List Int)×Bool×(List Int)×Bool×(List Int)×(List Int)×Unit))
def uc (x1:tT) (again:tT→Option tN):Option tN:=
 match x1 with
 | (A,B,C,D,E,F,G,H,I,J,K,_)=>
 bif decide (B≥0) then
  Option.bind (Bh A A) fun r2=>
  chk (decide (0≤(0:Int))&&decide ((0:Int)<(r2.1.length:Int))) <|
  Option.bind (r2.1[0]?) fun y3=>
  Option.bind (idx D (w64 (Int.tdiv B 32))) fun y4=>
  chk (decide (0≤(Int.tmod B 32))) <|
  let n5:Int:=mB (((BitVec.ofInt (IntKind.bits .u32) (Int.fdiv y4 (2 ^ (min (Int.toNat (Int.tmod B 32)) (IntKind.bits .u32)))) &&& BitVec.ofInt (IntKind.bits .u32) 1).toNat:Int))
  chk (decide (0≤(0:Int))&&decide ((0:Int)<(r2.1.length:Int))) <|
  Option.bind (r2.1[0]?) fun _=>
  Option.bind (pG (List.set r2.1 0 (mB (((BitVec.ofInt (IntKind.bits .u32) y3 ||| BitVec.ofInt (IntKind.bits .u32) n5).toNat:Int))))) fun r6=>
  Option.bind (s9 r6.1 F) fun r7=>
  bif decide (r7.1≥0) then
   Option.bind (vD r6.1 F) fun r8=>
   chk (decide (0≤(w64 (Int.tdiv B 32)))&&decide ((w64 (Int.tdiv B 32))<(K.length:Int))) <|
   Option.bind (K[(w64 (Int.tdiv B 32)).toNat]?) fun y9=>
   chk (decide (0≤(Int.tmod B 32))) <|
   let n10:Int:=mB (((BitVec.ofInt (IntKind.bits .u32) y9 ||| BitVec.ofInt (IntKind.bits .u32) (mB (1*2 ^ (min (Int.toNat (Int.tmod B 32)) (IntKind.bits .u32))))).toNat:Int))
   chk (decide (0≤(w64 (Int.tdiv B 32)))&&decide ((w64 (Int.tdiv B 32))<(K.length:Int))) <|
   Option.bind (K[(w64 (Int.tdiv B 32)).toNat]?) fun _=>
   again (r8.1,w64 (B - 1),C,D,E,F,G,H,I,J,List.set K (w64 (Int.tdiv B 32)).toNat n10,())
  else
   again (r6.1,w64 (B - 1),C,D,E,F,G,H,I,J,K,())
 else
  some (Sum.inr (A,G,H,I,J,K,()))
def rj (a0:aa) (a1:aa):Option (aa×aa×Unit):=
 chk (decide (0≤((a0.2.length:Int)))&&decide (((a0.2.length:Int))≤((a0.2.length:Int)))&&decide ((4:Int)*((a0.2.length:Int))≤281474976710656)&&decide (((a0.2.length:Int))≤9223372036854775807)) <|
 let n1:Int:=w64 ((w64 (((a0.2.length:Int))*32)) - 1)
 aO (β:=(aa×aa×Unit)) (γ:=((List Int)×Bool×(List Int)×Bool×(List Int)×(List Int)×Unit)) (
  iter (X:=tT) (β:=tN) (List.length ([]:List Int)+(Int.natAbs n1+(a0.2.length+(a1.2.length+(List.length ([]:List Int)+(List.length ([]:List Int)+(List.length ((List.replicate (Int.toNat ((a0.2.length:Int))) 0):List Int)+2))))))) ([],n1,a0.1,a0.2,a1.1,a1.2,false,[],false,[],List.replicate (Int.toNat ((a0.2.length:Int))) 0,()) (uc)) fun v14=>
 Option.bind (iO false v14.2.2.2.2.2.1) fun r15=>
 Option.bind (iO false v14.1) fun r16=>
 some (r15.1,r16.1,())
def aC (a0:aa):Option (Int×Unit):=
 bif a0.1 then
  some ((-1),())
 else
  bif ((a0.2.length:Int))==0 then
   some (0,())
  else
   some (1,())
def aB (a0:aa):Option (aa×Unit):=
 Option.bind (iO (!a0.1) a0.2) fun r1=>
 some (r1.1,())
abbrev sF:Type:=Int×Int×(List Int)×Int×Int×Bool×(List Int)×Unit
abbrev so:Type:=((Int×Bool×Unit) ⊕ (Int×Int×Bool×(List Int)×Unit))
def sw (x1:sF) (again:sF→Option so):Option so:=
 match x1 with
 | (A,B,C,D,E,F,G,_)=>
 bif decide (E<D) then
  Option.bind (idx C E) fun y2=>
  chk (decide (0≤(w64 (32*E)))) <|
  let n3:Int:=bM ((bM y2)*2 ^ (min (Int.toNat (w64 (32*E))) (IntKind.bits .u64)))
  again (A,bM (((BitVec.ofInt (IntKind.bits .u64) B ||| BitVec.ofInt (IntKind.bits .u64) n3).toNat:Int)),C,D,w64 (E+1),F,G,())
 else
  some (Sum.inr (A,B,F,G,()))
def nq (a0:aa) (a1:Int):Option (Int×Bool×Unit):=
 bif decide (((a0.2.length:Int))>2) then
  some (0,false,())
 else
  aO (β:=(Int×Bool×Unit)) (γ:=(Int×Int×Bool×(List Int)×Unit)) (
   iter (X:=sF) (β:=so) (Int.natAbs a1+(Int.natAbs (0:Int)+(a0.2.length+(Int.natAbs ((a0.2.length:Int))+(Int.natAbs (0:Int)+(a0.2.length+2)))))) (a1,0,a0.2,(a0.2.length:Int),0,a0.1,a0.2,()) (sw)) fun v4=>
  bif decide (v4.2.1>(bM v4.1)) then
   some (0,false,())
  else
   bif v4.2.2.1 then
    some (w64 (0 - (w64 v4.2.1)),true,())
   else
    some (w64 v4.2.1,true,())
def qm (a0:aa) (a1:Int):Option (ak×Int×Unit):=
 Option.bind (nq a0 1000000000000000) fun r1=>
 bif !r1.2.1 then
  some ((0,0),1,())
 else
  some ((r1.1,a1),0,())
abbrev xQ:Type:=Int×Bool×(List Int)×Int×Int×Bool×(List Int)×Unit
abbrev x7:Type:=((ak×Int×Unit) ⊕ (Int×Bool×(List Int)×Int×Int×Unit))
def LM (x1:xQ) (again:xQ→Option x7):Option x7:=
 match x1 with
 | (A,B,C,D,E,F,G,_)=>
 bif decide (A>0) then
  Option.bind (rj (B,C) (F,G)) fun r2=>
  Option.bind (aC r2.2.1) fun r3=>
  bif r3.1 != 0 then
   some (Sum.inr (A,B,C,D,E,()))
  else
   Option.bind (aC (B,C)) fun r4=>
   bif decide (r4.1<0) then
    Option.bind (aB r2.1) fun r5=>
    again (w64 (A - 1),r5.1.1,r5.1.2,D,E,F,G,())
   else
    again (w64 (A - 1),r2.1.1,r2.1.2,D,E,F,G,())
 else
  some (Sum.inr (A,B,C,D,E,()))
def HE (a0:aa) (a1:Int):Option (ak×Int×Unit):=
 Option.bind (bA 10) fun r1=>
 aO (β:=(ak×Int×Unit)) (γ:=(Int×Bool×(List Int)×Int×Int×Unit)) (
  iter (X:=xQ) (β:=x7) (Int.natAbs a1+(a0.2.length+(Int.natAbs (0:Int)+(Int.natAbs (0:Int)+(r1.1.2.length+2))))) (a1,a0.1,a0.2,0,0,r1.1.1,r1.1.2,()) (LM)) fun v7=>
 Option.bind (qm (v7.2.1,v7.2.2.1) v7.1) fun r8=>
 some (r8.1,r8.2.1,())
def Mx (a0:Int):Option (ak×Int×Unit):=
 Option.bind (bA a0) fun r1=>
 Option.bind (HE r1.1 4) fun r2=>
 some (r2.1,r2.2.1,())
def vw (a0:Int):Option (ak×Unit):=
 Option.bind (Mx a0) fun r1=>
 some (r1.1,())
abbrev Fa:Type:=(List Int)×(List jO)×(List (Option Nat))×Int×Int×(List ax)×Unit
abbrev E3:Type:=(((List jO)×(List ak)×Int×Unit) ⊕ ((List Int)×(List jO)×(List ax)×Unit))
noncomputable def Ro (x1:Fa) (again:Fa→Option E3):Option E3:=
 match x1 with
 | (A,B,C,D,E,F,_)=>
 bif decide (E<D) then
  Option.bind (idx C E) fun y2=>
  Option.bind (y2) fun h3=>
  Option.bind (F[h3]?) fun y4=>
  Option.bind (y2) fun h5=>
  Option.bind (F[h5]?) fun y6=>
  Option.bind (vw y6.2.2.1) fun r7=>
  Option.bind (y2) fun h8=>
  Option.bind (F[h8]?) fun y9=>
  Option.bind (vw y9.2.2.2.1) fun r10=>
  Option.bind (y2) fun h11=>
  Option.bind (F[h11]?) fun y12=>
  chk (decide (((B.length)+1)*56≤140737488355328)&&decide ((B.length)+1≤maxLen)) <|
  again (A,B++[(y4.1.1,r7.1,r10.1,y12.2.2.2.2)],C,D,w64 (E+1),F,())
 else
  some (Sum.inr (A,B,F,()))
abbrev D7:Type:=(List jO)×(List ak)×(List Int)×Int×Int×(List ax)×Unit
abbrev Dt:Type:=(((List jO)×(List ak)×Int×Unit) ⊕ ((List jO)×(List ak)×(List ax)×Unit))
noncomputable def P9 (x1:D7) (again:D7→Option Dt):Option Dt:=
 match x1 with
 | (A,B,C,D,E,F,_)=>
 bif decide (E<D) then
  Option.bind (idx C E) fun y2=>
  Option.bind (vw y2) fun r3=>
  chk (decide (((B.length)+1)*16≤140737488355328)&&decide ((B.length)+1≤maxLen)) <|
  again (A,B++[r3.1],C,D,w64 (E+1),F,())
 else
  some (Sum.inr (A,B,F,()))
noncomputable def Pn (a0:List cE) (a1:List bG):Option ((List jO)×(List ak)×Int×Unit):=
 Option.bind (Gs a0 a1) fun r1=>
 bif r1.1 != 0 then
  some ([],[],r1.1,())
 else
  Option.bind (HL a0 a1 3652059 []) fun r2=>
  aO (β:=((List jO)×(List ak)×Int×Unit)) (γ:=((List Int)×(List jO)×(List ax)×Unit)) (
   iter (X:=Fa) (β:=E3) (r2.2.1.length+(List.length ([]:List jO)+(r2.1.length+(Int.natAbs ((r2.1.length:Int))+(Int.natAbs (0:Int)+(r2.2.2.1.length+2)))))) (r2.2.1,[],r2.1,(r2.1.length:Int),0,r2.2.2.1,()) (Ro)) fun v15=>
  aO (β:=((List jO)×(List ak)×Int×Unit)) (γ:=((List jO)×(List ak)×(List ax)×Unit)) (
   iter (X:=D7) (β:=Dt) (v15.2.1.length+(List.length ([]:List ak)+(v15.1.length+(Int.natAbs ((v15.1.length:Int))+(Int.natAbs (0:Int)+(v15.2.2.1.length+2)))))) (v15.2.1,[],v15.1,(v15.1.length:Int),0,v15.2.2.1,()) (P9)) fun v19=>
  some (v19.1,v19.2.1,0,())
noncomputable def ET:Option (Bool×Unit):=
 Option.bind (Pn [([97],5,(7,0),0,0,0)] [(6,(9,0),[])]) fun r1=>
 bif r1.2.2.1==0 then
  bif ((r1.1.length:Int))==1 then
   Option.bind (idx r1.1 0) fun y2=>
   bif y2.2.2.2==6 then
    bif ((r1.2.1.length:Int))==1 then
     Option.bind (idx r1.2.1 0) fun y3=>
     some (y3.1==2,())
    else
     some (false,())
   else
    some (false,())
  else
   some (false,())
 else
  some (false,())
end Go.Md
namespace Go.Md
open Go.Dn
end Go.Md
