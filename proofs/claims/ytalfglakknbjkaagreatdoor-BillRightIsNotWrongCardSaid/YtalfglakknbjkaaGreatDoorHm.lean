/-
  The plain models of the functions that the law reaches, first part. No condition.
-/
import Derived.Test.YtalfglakknbjkaaGreatDoorHd
import Derived.Lib.SlTrimSet
set_option linter.all false
namespace Go.Md
open Go.Dn
def q7 (s c:List UInt8):Option (List UInt8×Unit):=
 bif decide (s.length≤9223372036854775807)&&(decide (c.length<4294967281)&&c.all fun b=>decide (b.toNat<128)) then some (Lib.trimS s c,()) else none
abbrev aQ:Ty:=(.st (.pair tI tI))
abbrev ak:Type:=Int×Int
abbrev cC:Ty:=(.st (.pair tI (.pair aQ (.slice .str))))
abbrev bJ:Type:=Int×ak×(List (List UInt8))
abbrev zJ:Ty:=(.st (.pair .str (.pair aQ (.pair aQ tI))))
abbrev jS:Type:=(List UInt8)×ak×ak×Int
abbrev FX:Type:=Bool×(List Int)
abbrev fU:Ty:=(.st (.pair .str (.pair tI (.pair aQ (.pair tI (.pair tI tI))))))
abbrev cH:Type:=(List UInt8)×Int×ak×Int×Int×Int
abbrev aO:Ty:=(.st (.pair fU (.pair tI (.pair tI (.pair tI tI)))))
abbrev au:Type:=cH×Int×Int×Int×Int
abbrev aj:Ty:=(.st (.pair .bool (.slice (.int .u32))))
abbrev aa:Type:=Bool×(List Int)
def gH (a0:List UInt8):Option (Bool×Unit):=
 bif decide (((List.length a0:Int))<1) then
  some (false,())
 else
  bif decide (((List.length a0:Int))>40) then
   some (false,())
  else
   Option.bind (Np a0 0) fun c1=>
   bif decide ((c1.toNat:Int)<97) then
    some (false,())
   else
    Option.bind (Np a0 0) fun c2=>
    bif decide ((c2.toNat:Int)>122) then
     some (false,())
    else
     Option.bind (q7 a0 [97,98,99,100,101,102,103,104,105,106,107,108,109,110,111,112,113,114,115,116,117,118,119,120,121,122,48,49,50,51,52,53,54,55,56,57,45]) fun r3=>
     some (r3.1==[],())
def CS (a0:cH) (a1:cH):Option (Bool×Unit):=
 some (a0.1==a1.1,())
abbrev lX:Type:=(List cH)×cH×Int×Int×Unit
abbrev l8:Type:=((Int×Unit) ⊕ Unit)
def A9 (x1:lX) (again:lX→Option l8):Option l8:=
 match x1 with
 | (A,B,C,D,_)=>
 bif decide (D<C) then
  Option.bind (idx A D) fun y2=>
  Option.bind (CS y2 B) fun r3=>
  bif r3.1 then
   some (Sum.inl (D,()))
  else
   again (A,B,C,w64 (D+1),())
 else
  some (Sum.inr ())
def tY (a0:List cH) (a1:cH):Option (Int×Unit):=
 aP (β:=(Int×Unit)) (γ:=Unit) (
  iter (X:=lX) (β:=l8) (List.length a0+(Int.natAbs ((List.length a0:Int))+(Int.natAbs (0:Int)+2))) (a0,a1,(List.length a0:Int),0,()) (A9)) fun _=>
 some ((-1),())
def q9 (a0:List cH) (a1:cH):Option (Bool×Unit):=
 Option.bind (tY a0 a1) fun r1=>
 some (decide (r1.1≥0),())
def cu (a0:Int) (a1:Int) (a2:Int):Option (Bool×Unit):=
 bif decide (a0<a1) then
  some (true,())
 else
  some (decide (a0>a2),())
def yT (a0:Int):Option (Bool×Unit):=
 Option.bind (cu a0 1 3652059) fun r1=>
 some (!r1.1,())
def bU (a0:ak):Option (Int×Unit):=
 Option.bind (cu a0.1 (-1000000000000000) 1000000000000000) fun r1=>
 bif r1.1 then
  some (1,())
 else
  Option.bind (cu a0.2 0 9) fun r2=>
  bif r2.1 then
   some (1,())
  else
   some (0,())
abbrev xY:Type:=Int×Int×Int×Unit
abbrev xR:Type:=((Int×Unit) ⊕ (Int×Unit))
def xQ (x1:xY) (again:xY→Option xR):Option xR:=
 bif decide (x1.2.2.1<x1.2.1) then
  again (w64 (x1.1*10),x1.2.1,w64 (x1.2.2.1+1),())
 else
  some (Sum.inr (x1.1,()))
def vN (a0:Int):Option (Int×Unit):=
 aP (β:=(Int×Unit)) (γ:=(Int×Unit)) (
  iter (X:=xY) (β:=xR) (Int.natAbs (1:Int)+(Int.natAbs a0+(Int.natAbs (0:Int)+2))) (1,a0,0,()) (xQ)) fun v2=>
 some (v2.1,())
def fD (a0:ak) (a1:Int):Option (Bool×Unit):=
 Option.bind (vN a0.2) fun r1=>
 Option.bind (cu a0.1 (w64 (0 - (w64 (a1*r1.1)))) (w64 (a1*r1.1))) fun r2=>
 some (!r2.1,())
def pP (a0:ak):Option (Int×Unit):=
 Option.bind (bU a0) fun r1=>
 bif r1.1 != 0 then
  some (r1.1,())
 else
  bif decide (a0.1≤0) then
   some (1,())
  else
   bif decide (a0.2>4) then
    some (1,())
   else
    Option.bind (fD a0 1000000000) fun r2=>
    bif !r2.1 then
     some (1,())
    else
     some (0,())
abbrev vg:Type:=(List cH)×(List cH)×Int×Int×Unit
abbrev vi:Type:=((Int×Unit) ⊕ Unit)
def Jc (x1:vg) (again:vg→Option vi):Option vi:=
 match x1 with
 | (A,B,C,D,_)=>
 bif decide (D<C) then
  Option.bind (idx B D) fun y2=>
  Option.bind (gH y2.1) fun r3=>
  bif !r3.1 then
   some (Sum.inl (5,()))
  else
   chk (decide (0≤(0:Int))&&decide ((0:Int)≤D)&&decide (D≤(A.length:Int))) <|
   Option.bind (q9 (List.drop 0 (List.take (Int.toNat D) A)) y2) fun r4=>
   bif r4.1 then
    some (Sum.inl (7,()))
   else
    Option.bind (yT y2.2.1) fun r5=>
    bif !r5.1 then
     some (Sum.inl (1,()))
    else
     bif decide (D>0) then
      Option.bind (idx A (w64 (D - 1))) fun y6=>
      bif decide (y2.2.1<y6.2.1) then
       some (Sum.inl (8,()))
      else
       Option.bind (pP y2.2.2.1) fun r7=>
       bif r7.1 != 0 then
        some (Sum.inl (r7.1,()))
       else
        Option.bind (cu y2.2.2.2.1 0 10000) fun r8=>
        bif r8.1 then
         some (Sum.inl (1,()))
        else
         Option.bind (cu y2.2.2.2.2.1 0 y2.2.2.2.1) fun r9=>
         bif r9.1 then
          some (Sum.inl (1,()))
         else
          Option.bind (cu y2.2.2.2.2.2 0 1000) fun r10=>
          bif r10.1 then
           some (Sum.inl (1,()))
          else
           again (A,B,C,w64 (D+1),())
     else
      Option.bind (pP y2.2.2.1) fun r11=>
      bif r11.1 != 0 then
       some (Sum.inl (r11.1,()))
      else
       Option.bind (cu y2.2.2.2.1 0 10000) fun r12=>
       bif r12.1 then
        some (Sum.inl (1,()))
       else
        Option.bind (cu y2.2.2.2.2.1 0 y2.2.2.2.1) fun r13=>
        bif r13.1 then
         some (Sum.inl (1,()))
        else
         Option.bind (cu y2.2.2.2.2.2 0 1000) fun r14=>
         bif r14.1 then
          some (Sum.inl (1,()))
         else
          again (A,B,C,w64 (D+1),())
 else
  some (Sum.inr ())
def ED (a0:List cH):Option (Int×Unit):=
 bif decide (((List.length a0:Int))>200) then
  some (2,())
 else
  aP (β:=(Int×Unit)) (γ:=Unit) (
   iter (X:=vg) (β:=vi) (List.length a0+(List.length a0+(Int.natAbs ((List.length a0:Int))+(Int.natAbs (0:Int)+2)))) (a0,a0,(List.length a0:Int),0,()) (Jc)) fun _=>
  some (0,())
abbrev qq:Type:=(List (List UInt8))×(List UInt8)×Int×Int×Unit
abbrev qx:Type:=((Int×Unit) ⊕ Unit)
def FG (x1:qq) (again:qq→Option qx):Option qx:=
 match x1 with
 | (A,B,C,D,_)=>
 bif decide (D<C) then
  Option.bind (idx A D) fun y2=>
  bif B==y2 then
   some (Sum.inl (D,()))
  else
   again (A,B,C,w64 (D+1),())
 else
  some (Sum.inr ())
def Ag (a0:List (List UInt8)) (a1:List UInt8):Option (Int×Unit):=
 aP (β:=(Int×Unit)) (γ:=Unit) (
  iter (X:=qq) (β:=qx) (List.length a0+(List.length a1+(Int.natAbs ((List.length a0:Int))+(Int.natAbs (0:Int)+2)))) (a0,a1,(List.length a0:Int),0,()) (FG)) fun _=>
 some ((-1),())
def xC (a0:List (List UInt8)) (a1:List UInt8):Option (Bool×Unit):=
 Option.bind (Ag a0 a1) fun r1=>
 some (decide (r1.1≥0),())
abbrev mI:Type:=(List bJ)×(List bJ)×Int×Int×(List (List UInt8))×Int×Int×Int×Int×Int×(List (List UInt8))×Unit
abbrev mC:Type:=(((Int×Unit) ⊕ Unit) ⊕ ((List bJ)×(List bJ)×Int×Int×Unit))
def xk (x1:mI) (again:mI→Option mC):Option mC:=
 match x1 with
 | (A,B,C,D,E,F,G,H,I,J,K,_)=>
 bif decide (G<F) then
  Option.bind (idx E G) fun y2=>
  Option.bind (gH y2) fun r3=>
  bif !r3.1 then
   FB <|
    some (Sum.inl (5,()))
  else
   chk (decide (0≤(0:Int))&&decide ((0:Int)≤G)&&decide (G≤(K.length:Int))) <|
   Option.bind (xC (List.drop 0 (List.take (Int.toNat G) K)) y2) fun r4=>
   bif r4.1 then
    FB <|
     some (Sum.inl (7,()))
   else
    again (A,B,C,D,E,F,w64 (G+1),H,I,J,K,())
 else
  some (Sum.inr (A,B,C,D,()))
abbrev rC:Type:=(List bJ)×(List bJ)×Int×Int×Unit
abbrev rI:Type:=((Int×Unit) ⊕ Unit)
def Gp (x1:rC) (again:rC→Option rI):Option rI:=
 match x1 with
 | (A,B,C,D,_)=>
 bif decide (D<C) then
  Option.bind (idx B D) fun y2=>
  Option.bind (yT y2.1) fun r3=>
  bif !r3.1 then
   some (Sum.inl (1,()))
  else
   bif decide (D>0) then
    Option.bind (idx A (w64 (D - 1))) fun y4=>
    bif decide (y2.1<y4.1) then
     some (Sum.inl (8,()))
    else
     Option.bind (pP y2.2.1) fun r5=>
     bif r5.1 != 0 then
      some (Sum.inl (r5.1,()))
     else
      bif decide (((y2.2.2.length:Int))>100) then
       some (Sum.inl (2,()))
      else
       aP (β:=((Int×Unit) ⊕ Unit)) (γ:=((List bJ)×(List bJ)×Int×Int×Unit)) (
        iter (X:=mI) (β:=mC) (A.length+(B.length+(C.natAbs+(D.natAbs+(y2.2.2.length+(Int.natAbs ((y2.2.2.length:Int))+(Int.natAbs (0:Int)+(y2.1.natAbs+(y2.2.1.1.natAbs+(y2.2.1.2.natAbs+(y2.2.2.length+2))))))))))) (A,B,C,D,y2.2.2,(y2.2.2.length:Int),0,y2.1,y2.2.1.1,y2.2.1.2,y2.2.2,()) (xk)) fun v6=>
       again (v6.1,v6.2.1,v6.2.2.1,w64 (v6.2.2.2.1+1),())
   else
    Option.bind (pP y2.2.1) fun r7=>
    bif r7.1 != 0 then
     some (Sum.inl (r7.1,()))
    else
     bif decide (((y2.2.2.length:Int))>100) then
      some (Sum.inl (2,()))
     else
      aP (β:=((Int×Unit) ⊕ Unit)) (γ:=((List bJ)×(List bJ)×Int×Int×Unit)) (
       iter (X:=mI) (β:=mC) (A.length+(B.length+(C.natAbs+(D.natAbs+(y2.2.2.length+(Int.natAbs ((y2.2.2.length:Int))+(Int.natAbs (0:Int)+(y2.1.natAbs+(y2.2.1.1.natAbs+(y2.2.1.2.natAbs+(y2.2.2.length+2))))))))))) (A,B,C,D,y2.2.2,(y2.2.2.length:Int),0,y2.1,y2.2.1.1,y2.2.1.2,y2.2.2,()) (xk)) fun v8=>
      again (v8.1,v8.2.1,v8.2.2.1,w64 (v8.2.2.2.1+1),())
 else
  some (Sum.inr ())
def Cb (a0:List bJ):Option (Int×Unit):=
 bif decide (((List.length a0:Int))>500) then
  some (2,())
 else
  aP (β:=(Int×Unit)) (γ:=Unit) (
   iter (X:=rC) (β:=rI) (List.length a0+(List.length a0+(Int.natAbs ((List.length a0:Int))+(Int.natAbs (0:Int)+2)))) (a0,a0,(List.length a0:Int),0,()) (Gp)) fun _=>
  some (0,())
def Gt (a0:List cH) (a1:List bJ):Option (Int×Unit):=
 Option.bind (ED a0) fun r1=>
 bif r1.1 != 0 then
  some (r1.1,())
 else
  Option.bind (Cb a1) fun r2=>
  some (r2.1,())
def G6 (a0:ak):Option (Int×Unit):=
 Option.bind (vN (w64 (4 - a0.2))) fun r1=>
 some (w64 (a0.1*r1.1),())
noncomputable def wg (a0:List (Option Nat)):Option ((List (Option Nat))×Unit):=
 bif List.isEmpty a0 then
  both (
   some ([],())) (
   chk (decide ((0+(List.length a0))*8≤140737488355328)&&decide (0+(List.length a0)≤maxLen)) <|
   some (a0,()))
 else
  chk (decide ((0+(List.length a0))*8≤140737488355328)&&decide (0+(List.length a0)≤maxLen)) <|
  some (a0,())
def AG (a0:Option Nat) (a1:List au):Option (Int×Unit):=
 Option.bind (a0) fun h1=>
 Option.bind (a1[h1]?) fun y2=>
 Option.bind (a0) fun h3=>
 Option.bind (a1[h3]?) fun y4=>
 some (w64 (y2.1.2.1+y4.1.2.2.2.1),())
def pQ (a0:Option Nat) (a1:Option Nat) (a2:List au):Option (Int×Unit):=
 Option.bind (AG a0 a2) fun r1=>
 Option.bind (AG a1 a2) fun r2=>
 some (w64 (r1.1 - r2.1),())
abbrev gz:Type:=Int×Int×Unit×Int×Int×(List (Option Nat))×(List au)×Unit
abbrev gy:Type:=((((List (Option Nat))×Unit) ⊕ ((List (Option Nat))×(List au)×Unit)) ⊕ (Int×Int×Unit×Int×(List (Option Nat))×(List au)×Unit))
def rT (x1:gz) (again:gz→Option gy):Option gy:=
 match x1 with
 | (A,B,C,D,E,F,G,_)=>
 bif decide (E>A) then
  chk (decide (0≤E)&&decide (E<(F.length:Int))) <|
  Option.bind (F[E.toNat]?) fun y2=>
  chk (decide (0≤(w64 (E - 1)))&&decide ((w64 (E - 1))<(F.length:Int))) <|
  Option.bind (F[(w64 (E - 1)).toNat]?) fun y3=>
  Option.bind (pQ y2 y3 G) fun r4=>
  bif decide (r4.1<0) then
   chk (decide (0≤(w64 (E - 1)))&&decide ((w64 (E - 1))<(F.length:Int))) <|
   Option.bind (F[(w64 (E - 1)).toNat]?) fun y5=>
   chk (decide (0≤E)&&decide (E<(F.length:Int))) <|
   Option.bind (F[E.toNat]?) fun y6=>
   chk (decide (0≤E)&&decide (E<(F.length:Int))) <|
   Option.bind (F[E.toNat]?) fun _=>
   chk (decide (0≤(w64 (E - 1)))&&decide ((w64 (E - 1))<(List.length (List.set F E.toNat y5):Int))) <|
   Option.bind ((List.set F E.toNat y5)[(w64 (E - 1)).toNat]?) fun _=>
   again (A,B,C,D,w64 (E - 1),List.set (List.set F E.toNat y5) (w64 (E - 1)).toNat y6,G,())
  else
   some (Sum.inr (A,B,C,D,F,G,()))
 else
  some (Sum.inr (A,B,C,D,F,G,()))
abbrev gx:Type:=Int×Int×Unit×Int×(List (Option Nat))×(List au)×Unit
abbrev gA:Type:=(((List (Option Nat))×Unit) ⊕ ((List (Option Nat))×(List au)×Unit))
def rP (x1:gx) (again:gx→Option gA):Option gA:=
 match x1 with
 | (A,B,C,D,E,F,_)=>
 bif decide (D<B) then
  aP (β:=(((List (Option Nat))×Unit) ⊕ ((List (Option Nat))×(List au)×Unit))) (γ:=(Int×Int×Unit×Int×(List (Option Nat))×(List au)×Unit)) (
   iter (X:=gz) (β:=gy) (A.natAbs+(B.natAbs+(D.natAbs+(D.natAbs+(E.length+2))))) (A,B,C,D,D,E,F,()) (rT)) fun v2=>
  again (v2.1,v2.2.1,v2.2.2.1,w64 (v2.2.2.2.1+1),v2.2.2.2.2.1,v2.2.2.2.2.2.1,())
 else
  some (Sum.inr (E,F,()))
def gS (a0:List (Option Nat)) (a1:Int) (a2:Int) (a3:Unit) (a4:List au):Option ((List (Option Nat))×Unit):=
 aP (β:=((List (Option Nat))×Unit)) (γ:=((List (Option Nat))×(List au)×Unit)) (
  iter (X:=gx) (β:=gA) (Int.natAbs a1+(Int.natAbs a2+(Int.natAbs (w64 (a1+1))+(List.length a0+2)))) (a1,a2,a3,w64 (a1+1),a0,a4,()) (rP)) fun v11=>
 some (v11.1,())
abbrev ij:Type:=Int×Int×Int×Int×(List (Option Nat))×(List au)×Unit
abbrev iq:Type:=(((List (Option Nat))×Unit) ⊕ ((List (Option Nat))×(List au)×Unit))
def uu (x1:ij) (again:ij→Option iq):Option iq:=
 match x1 with
 | (A,B,C,D,E,F,_)=>
 bif decide (D<C) then
  chk (decide (0≤(w64 (B+D)))&&decide ((w64 (B+D))<(E.length:Int))) <|
  Option.bind (E[(w64 (B+D)).toNat]?) fun y2=>
  chk (decide (0≤(w64 (A+D)))&&decide ((w64 (A+D))<(E.length:Int))) <|
  Option.bind (E[(w64 (A+D)).toNat]?) fun y3=>
  chk (decide (0≤(w64 (A+D)))&&decide ((w64 (A+D))<(E.length:Int))) <|
  Option.bind (E[(w64 (A+D)).toNat]?) fun _=>
  chk (decide (0≤(w64 (B+D)))&&decide ((w64 (B+D))<(List.length (List.set E (w64 (A+D)).toNat y2):Int))) <|
  Option.bind ((List.set E (w64 (A+D)).toNat y2)[(w64 (B+D)).toNat]?) fun _=>
  again (A,B,C,w64 (D+1),List.set (List.set E (w64 (A+D)).toNat y2) (w64 (B+D)).toNat y3,F,())
 else
  some (Sum.inr (E,F,()))
def fS (a0:List (Option Nat)) (a1:Int) (a2:Int) (a3:Int) (_a4:Unit) (a5:List au):Option ((List (Option Nat))×Unit):=
 aP (β:=((List (Option Nat))×Unit)) (γ:=((List (Option Nat))×(List au)×Unit)) (
  iter (X:=ij) (β:=iq) (Int.natAbs a1+(Int.natAbs a2+(Int.natAbs a3+(Int.natAbs (0:Int)+(List.length a0+2))))) (a1,a2,a3,0,a0,a5,()) (uu)) fun v6=>
 some (v6.1,())
abbrev jl:Type:=Int×Unit×Int×Int×(List (Option Nat))×(List au)×Unit
abbrev jq:Type:=(((List (Option Nat))×Unit) ⊕ (Int×Unit×Int×(List (Option Nat))×(List au)×Unit))
def wF (x1:jl) (again:jl→Option jq):Option jq:=
 match x1 with
 | (A,B,C,D,E,F,_)=>
 bif C != D then
  bif decide (C>D) then
   Option.bind (fS E (w64 (A - C)) A D B F) fun r2=>
   again (A,B,w64 (C - D),D,r2.1,F,())
  else
   Option.bind (fS E (w64 (A - C)) (w64 ((w64 (A+D)) - C)) C B F) fun r3=>
   again (A,B,C,w64 (D - C),r3.1,F,())
 else
  some (Sum.inr (A,B,C,E,F,()))
def o5 (a0:List (Option Nat)) (a1:Int) (a2:Int) (a3:Int) (a4:Unit) (a5:List au):Option ((List (Option Nat))×Unit):=
 aP (β:=((List (Option Nat))×Unit)) (γ:=(Int×Unit×Int×(List (Option Nat))×(List au)×Unit)) (
  iter (X:=jl) (β:=jq) (Int.natAbs a2+(Int.natAbs (w64 (a2 - a1))+(Int.natAbs (w64 (a3 - a2))+(List.length a0+2)))) (a2,a4,w64 (a2 - a1),w64 (a3 - a2),a0,a5,()) (wF)) fun v4=>
 Option.bind (fS v4.2.2.2.1 (w64 (v4.1 - v4.2.2.1)) v4.1 v4.2.2.1 v4.2.1 v4.2.2.2.2.1) fun r5=>
 some (r5.1,())
abbrev iG:Type:=Int×Unit×Int×Int×(List (Option Nat))×(List au)×Unit
abbrev iE:Type:=(((List (Option Nat))×Unit) ⊕ (Int×Int×(List (Option Nat))×(List au)×Unit))
def uK (x1:iG) (again:iG→Option iE):Option iE:=
 match x1 with
 | (A,B,C,D,E,F,_)=>
 bif decide (C<D) then
  let n2:Int:=w64 (Int.fdiv (bP (w64 (C+D))) (2 ^ 1))
  chk (decide (0≤n2)&&decide (n2<(E.length:Int))) <|
  Option.bind (E[n2.toNat]?) fun y3=>
  chk (decide (0≤A)&&decide (A<(E.length:Int))) <|
  Option.bind (E[A.toNat]?) fun y4=>
  Option.bind (pQ y3 y4 F) fun r5=>
  bif decide (r5.1<0) then
   again (A,B,w64 (n2+1),D,E,F,())
  else
   again (A,B,C,n2,E,F,())
 else
  some (Sum.inr (A,C,E,F,()))
abbrev iF:Type:=Int×Int×(List (Option Nat))×(List au)×Unit
abbrev iH:Type:=(((List (Option Nat))×Unit) ⊕ ((List (Option Nat))×(List au)×Unit))
def u9 (x1:iF) (again:iF→Option iH):Option iH:=
 match x1 with
 | (A,B,C,D,_)=>
 bif decide (B<(w64 (A - 1))) then
  chk (decide (0≤(w64 (B+1)))&&decide ((w64 (B+1))<(C.length:Int))) <|
  Option.bind (C[(w64 (B+1)).toNat]?) fun y2=>
  chk (decide (0≤B)&&decide (B<(C.length:Int))) <|
  Option.bind (C[B.toNat]?) fun y3=>
  chk (decide (0≤B)&&decide (B<(C.length:Int))) <|
  Option.bind (C[B.toNat]?) fun _=>
  chk (decide (0≤(w64 (B+1)))&&decide ((w64 (B+1))<(List.length (List.set C B.toNat y2):Int))) <|
  Option.bind ((List.set C B.toNat y2)[(w64 (B+1)).toNat]?) fun _=>
  again (A,w64 (B+1),List.set (List.set C B.toNat y2) (w64 (B+1)).toNat y3,D,())
 else
  some (Sum.inr (C,D,()))
abbrev gX:Type:=Int×Unit×Int×Int×(List (Option Nat))×(List au)×Unit
abbrev gY:Type:=(((List (Option Nat))×Unit) ⊕ (Int×Int×(List (Option Nat))×(List au)×Unit))
def uy (x1:gX) (again:gX→Option gY):Option gY:=
 match x1 with
 | (A,B,C,D,E,F,_)=>
 bif decide (C<D) then
  let n2:Int:=w64 (Int.fdiv (bP (w64 (C+D))) (2 ^ 1))
  chk (decide (0≤A)&&decide (A<(E.length:Int))) <|
  Option.bind (E[A.toNat]?) fun y3=>
  chk (decide (0≤n2)&&decide (n2<(E.length:Int))) <|
  Option.bind (E[n2.toNat]?) fun y4=>
  Option.bind (pQ y3 y4 F) fun r5=>
  bif !(decide (r5.1<0)) then
   again (A,B,w64 (n2+1),D,E,F,())
  else
   again (A,B,C,n2,E,F,())
 else
  some (Sum.inr (A,C,E,F,()))
abbrev hY:Type:=Int×Int×(List (Option Nat))×(List au)×Unit
abbrev ic:Type:=(((List (Option Nat))×Unit) ⊕ ((List (Option Nat))×(List au)×Unit))
def uC (x1:hY) (again:hY→Option ic):Option ic:=
 match x1 with
 | (A,B,C,D,_)=>
 bif decide (B>A) then
  chk (decide (0≤(w64 (B - 1)))&&decide ((w64 (B - 1))<(C.length:Int))) <|
  Option.bind (C[(w64 (B - 1)).toNat]?) fun y2=>
  chk (decide (0≤B)&&decide (B<(C.length:Int))) <|
  Option.bind (C[B.toNat]?) fun y3=>
  chk (decide (0≤B)&&decide (B<(C.length:Int))) <|
  Option.bind (C[B.toNat]?) fun _=>
  chk (decide (0≤(w64 (B - 1)))&&decide ((w64 (B - 1))<(List.length (List.set C B.toNat y2):Int))) <|
  Option.bind ((List.set C B.toNat y2)[(w64 (B - 1)).toNat]?) fun _=>
  again (A,w64 (B - 1),List.set (List.set C B.toNat y2) (w64 (B - 1)).toNat y3,D,())
 else
  some (Sum.inr (C,D,()))
abbrev ia:Type:=Int×Int×Int×Unit×Int×Int×Int×Int×Int×(List (Option Nat))×(List au)×Unit
abbrev ig:Type:=(((List (Option Nat))×Unit) ⊕ (Int×Int×Int×Unit×Int×Int×Int×(List (Option Nat))×(List au)×Unit))
def ux (x1:ia) (again:ia→Option ig):Option ig:=
 match x1 with
 | (A,B,C,D,E,F,G,H,I,J,K,_)=>
 bif decide (G<H) then
  let n2:Int:=w64 (Int.fdiv (bP (w64 (G+H))) (2 ^ 1))
  chk (decide (0≤(w64 (I - n2)))&&decide ((w64 (I - n2))<(J.length:Int))) <|
  Option.bind (J[(w64 (I - n2)).toNat]?) fun y3=>
  chk (decide (0≤n2)&&decide (n2<(J.length:Int))) <|
  Option.bind (J[n2.toNat]?) fun y4=>
  Option.bind (pQ y3 y4 K) fun r5=>
  bif !(decide (r5.1<0)) then
   again (A,B,C,D,E,F,w64 (n2+1),H,I,J,K,())
  else
   again (A,B,C,D,E,F,G,n2,I,J,K,())
 else
  some (Sum.inr (A,B,C,D,E,F,G,J,K,()))
def de (self:((List (Option Nat))×Int×Int×Int×Unit×(List au)×Unit)→Option ((List (Option Nat))×Unit)) (a0:List (Option Nat)) (a1:Int) (a2:Int) (a3:Int) (a4:Unit) (a5:List au):Option ((List (Option Nat))×Unit):=
 bif (w64 (a2 - a1))==1 then
  aP (β:=((List (Option Nat))×Unit)) (γ:=(Int×Int×(List (Option Nat))×(List au)×Unit)) (
   iter (X:=iG) (β:=iE) (Int.natAbs a1+(Int.natAbs a2+(Int.natAbs a3+(List.length a0+2)))) (a1,a4,a2,a3,a0,a5,()) (uK)) fun v6=>
  aP (β:=((List (Option Nat))×Unit)) (γ:=((List (Option Nat))×(List au)×Unit)) (
   iter (X:=iF) (β:=iH) (v6.2.1.natAbs+(v6.1.natAbs+(v6.2.2.1.length+2))) (v6.2.1,v6.1,v6.2.2.1,v6.2.2.2.1,()) (u9)) fun v12=>
  some (v12.1,())
 else
  bif (w64 (a3 - a2))==1 then
   aP (β:=((List (Option Nat))×Unit)) (γ:=(Int×Int×(List (Option Nat))×(List au)×Unit)) (
    iter (X:=gX) (β:=gY) (Int.natAbs a2+(Int.natAbs a1+(Int.natAbs a2+(List.length a0+2)))) (a2,a4,a1,a2,a0,a5,()) (uy)) fun v18=>
   aP (β:=((List (Option Nat))×Unit)) (γ:=((List (Option Nat))×(List au)×Unit)) (
    iter (X:=hY) (β:=ic) (v18.2.1.natAbs+(v18.1.natAbs+(v18.2.2.1.length+2))) (v18.2.1,v18.1,v18.2.2.1,v18.2.2.2.1,()) (uC)) fun v24=>
   some (v24.1,())
  else
   let n25:Int:=w64 (Int.fdiv (bP (w64 (a1+a3))) (2 ^ 1))
   aP (β:=((List (Option Nat))×Unit)) (γ:=(Int×Int×Int×Unit×Int×Int×Int×Int×(List (Option Nat))×(List au)×Unit)) (
    bif decide (a2>n25) then
     some (Sum.inr (a1,a2,a3,a4,n25,w64 (n25+a2),w64 ((w64 (n25+a2)) - a3),n25,a0,a5,()))
    else
     some (Sum.inr (a1,a2,a3,a4,n25,w64 (n25+a2),a1,a2,a0,a5,()))) fun v26=>
   aP (β:=((List (Option Nat))×Unit)) (γ:=(Int×Int×Int×Unit×Int×Int×Int×(List (Option Nat))×(List au)×Unit)) (
    iter (X:=ia) (β:=ig) (v26.1.natAbs+(v26.2.1.natAbs+(v26.2.2.1.natAbs+(v26.2.2.2.2.1.natAbs+(v26.2.2.2.2.2.1.natAbs+(v26.2.2.2.2.2.2.1.natAbs+(v26.2.2.2.2.2.2.2.1.natAbs+(Int.natAbs (w64 (v26.2.2.2.2.2.1 - 1))+(v26.2.2.2.2.2.2.2.2.1.length+2))))))))) (v26.1,v26.2.1,v26.2.2.1,v26.2.2.2.1,v26.2.2.2.2.1,v26.2.2.2.2.2.1,v26.2.2.2.2.2.2.1,v26.2.2.2.2.2.2.2.1,w64 (v26.2.2.2.2.2.1 - 1),v26.2.2.2.2.2.2.2.2.1,v26.2.2.2.2.2.2.2.2.2.1,()) (ux)) fun v32=>
   bif decide (v32.2.2.2.2.2.2.1<v32.2.1) then
    aP (β:=((List (Option Nat))×Unit)) (γ:=(Int×Int×Unit×Int×Int×Int×(List (Option Nat))×(List au)×Unit)) (
     bif decide (v32.2.1<(w64 (v32.2.2.2.2.2.1 - v32.2.2.2.2.2.2.1))) then
      Option.bind (o5 v32.2.2.2.2.2.2.2.1 v32.2.2.2.2.2.2.1 v32.2.1 (w64 (v32.2.2.2.2.2.1 - v32.2.2.2.2.2.2.1)) v32.2.2.2.1 v32.2.2.2.2.2.2.2.2.1) fun r33=>
      some (Sum.inr (v32.1,v32.2.2.1,v32.2.2.2.1,v32.2.2.2.2.1,v32.2.2.2.2.2.2.1,w64 (v32.2.2.2.2.2.1 - v32.2.2.2.2.2.2.1),r33.1,v32.2.2.2.2.2.2.2.2.1,()))
     else
      some (Sum.inr (v32.1,v32.2.2.1,v32.2.2.2.1,v32.2.2.2.2.1,v32.2.2.2.2.2.2.1,w64 (v32.2.2.2.2.2.1 - v32.2.2.2.2.2.2.1),v32.2.2.2.2.2.2.2.1,v32.2.2.2.2.2.2.2.2.1,()))) fun v34=>
    bif decide (v34.1<v34.2.2.2.2.1) then
     aP (β:=((List (Option Nat))×Unit)) (γ:=(Int×Unit×Int×Int×(List (Option Nat))×(List au)×Unit)) (
      bif decide (v34.2.2.2.2.1<v34.2.2.2.1) then
       Option.bind (self (v34.2.2.2.2.2.2.1,v34.1,v34.2.2.2.2.1,v34.2.2.2.1,v34.2.2.1,v34.2.2.2.2.2.2.2.1,())) fun r35=>
       some (Sum.inr (v34.2.1,v34.2.2.1,v34.2.2.2.1,v34.2.2.2.2.2.1,r35.1,v34.2.2.2.2.2.2.2.1,()))
      else
       some (Sum.inr (v34.2.1,v34.2.2.1,v34.2.2.2.1,v34.2.2.2.2.2.1,v34.2.2.2.2.2.2.1,v34.2.2.2.2.2.2.2.1,()))) fun v36=>
     bif decide (v36.2.2.1<v36.2.2.2.1) then
      bif decide (v36.2.2.2.1<v36.1) then
       Option.bind (self (v36.2.2.2.2.1,v36.2.2.1,v36.2.2.2.1,v36.1,v36.2.1,v36.2.2.2.2.2.1,())) fun r37=>
       some (r37.1,())
      else
       some (v36.2.2.2.2.1,())
     else
      some (v36.2.2.2.2.1,())
    else
     bif decide (v34.2.2.2.1<v34.2.2.2.2.2.1) then
      bif decide (v34.2.2.2.2.2.1<v34.2.1) then
       Option.bind (self (v34.2.2.2.2.2.2.1,v34.2.2.2.1,v34.2.2.2.2.2.1,v34.2.1,v34.2.2.1,v34.2.2.2.2.2.2.2.1,())) fun r38=>
       some (r38.1,())
      else
       some (v34.2.2.2.2.2.2.1,())
     else
      some (v34.2.2.2.2.2.2.1,())
   else
    bif decide (v32.1<v32.2.2.2.2.2.2.1) then
     aP (β:=((List (Option Nat))×Unit)) (γ:=(Int×Unit×Int×Int×(List (Option Nat))×(List au)×Unit)) (
      bif decide (v32.2.2.2.2.2.2.1<v32.2.2.2.2.1) then
       Option.bind (self (v32.2.2.2.2.2.2.2.1,v32.1,v32.2.2.2.2.2.2.1,v32.2.2.2.2.1,v32.2.2.2.1,v32.2.2.2.2.2.2.2.2.1,())) fun r39=>
       some (Sum.inr (v32.2.2.1,v32.2.2.2.1,v32.2.2.2.2.1,w64 (v32.2.2.2.2.2.1 - v32.2.2.2.2.2.2.1),r39.1,v32.2.2.2.2.2.2.2.2.1,()))
      else
       some (Sum.inr (v32.2.2.1,v32.2.2.2.1,v32.2.2.2.2.1,w64 (v32.2.2.2.2.2.1 - v32.2.2.2.2.2.2.1),v32.2.2.2.2.2.2.2.1,v32.2.2.2.2.2.2.2.2.1,()))) fun v40=>
     bif decide (v40.2.2.1<v40.2.2.2.1) then
      bif decide (v40.2.2.2.1<v40.1) then
       Option.bind (self (v40.2.2.2.2.1,v40.2.2.1,v40.2.2.2.1,v40.1,v40.2.1,v40.2.2.2.2.2.1,())) fun r41=>
       some (r41.1,())
      else
       some (v40.2.2.2.2.1,())
     else
      some (v40.2.2.2.2.1,())
    else
     bif decide (v32.2.2.2.2.1<(w64 (v32.2.2.2.2.2.1 - v32.2.2.2.2.2.2.1))) then
      bif decide ((w64 (v32.2.2.2.2.2.1 - v32.2.2.2.2.2.2.1))<v32.2.2.1) then
       Option.bind (self (v32.2.2.2.2.2.2.2.1,v32.2.2.2.2.1,w64 (v32.2.2.2.2.2.1 - v32.2.2.2.2.2.2.1),v32.2.2.1,v32.2.2.2.1,v32.2.2.2.2.2.2.2.2.1,())) fun r42=>
       some (r42.1,())
      else
       some (v32.2.2.2.2.2.2.2.1,())
     else
      some (v32.2.2.2.2.2.2.2.1,())
def lP (a0:List (Option Nat)) (a1:Int) (a2:Int) (a3:Int) (_a4:Unit) (_a5:List au):Nat:=List.length a0+(Int.natAbs a1+(Int.natAbs a2+(Int.natAbs a3+2)))
def jN (a0:List (Option Nat)) (a1:Int) (a2:Int) (a3:Int) (a4:Unit) (a5:List au):Option ((List (Option Nat))×Unit):=
 AV (fun self x=>de self x.1 x.2.1 x.2.2.1 x.2.2.2.1 x.2.2.2.2.1 x.2.2.2.2.2.1) (lP a0 a1 a2 a3 a4 a5) (a0,a1,a2,a3,a4,a5,())
abbrev jk:Type:=Int×Unit×Int×Int×Int×(List (Option Nat))×(List au)×Unit
abbrev je:Type:=(((List (Option Nat))×Unit) ⊕ (Int×Unit×Int×Int×(List (Option Nat))×(List au)×Unit))
def wE (x1:jk) (again:jk→Option je):Option je:=
 match x1 with
 | (A,B,C,D,E,F,G,_)=>
 bif decide (E≤A) then
  Option.bind (gS F D E B G) fun r2=>
  again (A,B,C,E,w64 (E+C),r2.1,G,())
 else
  some (Sum.inr (A,B,C,D,F,G,()))
abbrev jg:Type:=Int×Unit×Int×Int×Int×(List (Option Nat))×(List au)×Unit
abbrev jj:Type:=((((List (Option Nat))×Unit) ⊕ ((List (Option Nat))×(List au)×Unit)) ⊕ (Int×Unit×Int×Int×(List (Option Nat))×(List au)×Unit))
def w8 (x1:jg) (again:jg→Option jj):Option jj:=
 match x1 with
 | (A,B,C,D,E,F,G,_)=>
 bif decide (E≤A) then
  Option.bind (jN F D (w64 (D+C)) E B G) fun r2=>
  again (A,B,C,E,w64 (E+(w64 (2*C))),r2.1,G,())
 else
  some (Sum.inr (A,B,C,D,F,G,()))
abbrev jf:Type:=Int×Unit×Int×(List (Option Nat))×(List au)×Unit
abbrev ji:Type:=(((List (Option Nat))×Unit) ⊕ ((List (Option Nat))×(List au)×Unit))
def wT (x1:jf) (again:jf→Option ji):Option ji:=
 match x1 with
 | (A,B,C,D,E,_)=>
 bif decide (C<A) then
  aP (β:=(((List (Option Nat))×Unit) ⊕ ((List (Option Nat))×(List au)×Unit))) (γ:=(Int×Unit×Int×Int×(List (Option Nat))×(List au)×Unit)) (
   iter (X:=jg) (β:=jj) (A.natAbs+(C.natAbs+(Int.natAbs (0:Int)+(Int.natAbs (w64 (2*C))+(D.length+2))))) (A,B,C,0,w64 (2*C),D,E,()) (w8)) fun v2=>
  bif decide ((w64 (v2.2.2.2.1+v2.2.2.1))<v2.1) then
   Option.bind (jN v2.2.2.2.2.1 v2.2.2.2.1 (w64 (v2.2.2.2.1+v2.2.2.1)) v2.1 v2.2.1 v2.2.2.2.2.2.1) fun r3=>
   again (v2.1,v2.2.1,w64 (v2.2.2.1*2),r3.1,v2.2.2.2.2.2.1,())
  else
   again (v2.1,v2.2.1,w64 (v2.2.2.1*2),v2.2.2.2.2.1,v2.2.2.2.2.2.1,())
 else
  some (Sum.inr (D,E,()))
def o8 (a0:List (Option Nat)) (a1:Int) (a2:Unit) (a3:List au):Option ((List (Option Nat))×Unit):=
 aP (β:=((List (Option Nat))×Unit)) (γ:=(Int×Unit×Int×Int×(List (Option Nat))×(List au)×Unit)) (
  iter (X:=jk) (β:=je) (Int.natAbs a1+(Int.natAbs (20:Int)+(Int.natAbs (0:Int)+(Int.natAbs (20:Int)+(List.length a0+2))))) (a1,a2,20,0,20,a0,a3,()) (wE)) fun v3=>
 Option.bind (gS v3.2.2.2.2.1 v3.2.2.2.1 v3.1 v3.2.1 v3.2.2.2.2.2.1) fun r4=>
 aP (β:=((List (Option Nat))×Unit)) (γ:=((List (Option Nat))×(List au)×Unit)) (
  iter (X:=jf) (β:=ji) (v3.1.natAbs+(v3.2.2.1.natAbs+(r4.1.length+2))) (v3.1,v3.2.1,v3.2.2.1,r4.1,v3.2.2.2.2.2.1,()) (wT)) fun v10=>
 some (v10.1,())
def oF (a0:List (Option Nat)) (a1:Unit) (a2:List au):Option ((List (Option Nat))×Unit):=
 Option.bind (o8 a0 ((List.length a0:Int)) a1 a2) fun r1=>
 some (r1.1,())
def zO (a0:Option Nat) (a1:Int) (a2:List au):Option (Bool×Unit):=
 Option.bind (a0) fun h1=>
 Option.bind (a2[h1]?) fun y2=>
 bif decide (y2.1.2.1≤a1) then
  Option.bind (a0) fun h3=>
  Option.bind (a2[h3]?) fun y4=>
  some (y4.2.2.2.2==0,())
 else
  some (false,())
def Ca (a0:Option Nat) (a1:List au):Option (Int×Unit):=
 Option.bind (a0) fun h1=>
 Option.bind (a1[h1]?) fun y2=>
 Option.bind (a0) fun h3=>
 Option.bind (a1[h3]?) fun y4=>
 Option.bind (a0) fun h5=>
 Option.bind (a1[h5]?) fun y6=>
 Option.bind (vN (w64 (4 - y6.1.2.2.1.2))) fun r7=>
 let n8:Int:=w64 ((w64 (Int.tdiv (w64 (y2.1.2.2.1.1*y4.1.2.2.2.2.2)) 1000))*r7.1)
 Option.bind (a0) fun h9=>
 Option.bind (a1[h9]?) fun y10=>
 some (if y10.2.1<n8 then y10.2.1 else n8,())
def xM (a0:Option Nat) (a1:Int) (a2:Int) (a3:List au):Option (Int×(List au)×Unit):=
 Option.bind (a0) fun h1=>
 Option.bind (a3[h1]?) fun y2=>
 Option.bind (a0) fun h3=>
 Option.bind (a3[h3]?) fun y4=>
 Option.bind (a0) fun h5=>
 Option.bind (a3[h5]?) fun y6=>
 Option.bind (a0) fun h7=>
 Option.bind (a3[h7]?) fun y8=>
 Option.bind (a0) fun h9=>
 Option.bind ((List.set a3 h7 (y8.1,y8.2.1,w64 (y4.2.2.1+(if y2.2.1<a1 then y2.2.1 else a1)),y8.2.2.2))[h9]?) fun y10=>
 Option.bind (a0) fun h11=>
 Option.bind ((List.set (List.set a3 h7 (y8.1,y8.2.1,w64 (y4.2.2.1+(if y2.2.1<a1 then y2.2.1 else a1)),y8.2.2.2)) h9 (y10.1,w64 (y6.2.1 - (if y2.2.1<a1 then y2.2.1 else a1)),y10.2.2))[h11]?) fun y12=>
 bif y12.2.1==0 then
  Option.bind (a0) fun h13=>
  Option.bind ((List.set (List.set a3 h7 (y8.1,y8.2.1,w64 (y4.2.2.1+(if y2.2.1<a1 then y2.2.1 else a1)),y8.2.2.2)) h9 (y10.1,w64 (y6.2.1 - (if y2.2.1<a1 then y2.2.1 else a1)),y10.2.2))[h13]?) fun y14=>
  some (w64 (a1 - (if y2.2.1<a1 then y2.2.1 else a1)),List.set (List.set (List.set a3 h7 (y8.1,y8.2.1,w64 (y4.2.2.1+(if y2.2.1<a1 then y2.2.1 else a1)),y8.2.2.2)) h9 (y10.1,w64 (y6.2.1 - (if y2.2.1<a1 then y2.2.1 else a1)),y10.2.2)) h13 (y14.1,y14.2.1,y14.2.2.1,y14.2.2.2.1,a2),())
 else
  some (w64 (a1 - (if y2.2.1<a1 then y2.2.1 else a1)),List.set (List.set a3 h7 (y8.1,y8.2.1,w64 (y4.2.2.1+(if y2.2.1<a1 then y2.2.1 else a1)),y8.2.2.2)) h9 (y10.1,w64 (y6.2.1 - (if y2.2.1<a1 then y2.2.1 else a1)),y10.2.2),())
def E4 (a0:Option Nat) (a1:Int) (a2:Int) (a3:List au):Option (Int×(List au)×Unit):=
 Option.bind (Ca a0 a3) fun r1=>
 Option.bind (a0) fun h2=>
 Option.bind (a3[h2]?) fun y3=>
 bif decide ((w64 (y3.2.1 - r1.1))>a1) then
  Option.bind (xM a0 a1 a2 a3) fun r4=>
  some (r4.1,r4.2.1,())
 else
  Option.bind (a0) fun h5=>
  Option.bind (a3[h5]?) fun y6=>
  Option.bind (a0) fun h7=>
  Option.bind (a3[h7]?) fun y8=>
  bif decide (a2>(w64 (y6.1.2.1+y8.1.2.2.2.2.1))) then
   Option.bind (xM a0 a1 a2 a3) fun r9=>
   some (r9.1,r9.2.1,())
  else
   Option.bind (a0) fun h10=>
   Option.bind (a3[h10]?) fun y11=>
   Option.bind (a0) fun h12=>
   Option.bind (a3[h12]?) fun y13=>
   Option.bind (a0) fun h14=>
   Option.bind (a3[h14]?) fun y15=>
   Option.bind (a0) fun h16=>
   Option.bind ((List.set a3 h14 (y15.1,y15.2.1,w64 (y13.2.2.1+(w64 (y11.2.1 - r1.1))),y15.2.2.2))[h16]?) fun y17=>
   Option.bind (a0) fun h18=>
   Option.bind ((List.set (List.set a3 h14 (y15.1,y15.2.1,w64 (y13.2.2.1+(w64 (y11.2.1 - r1.1))),y15.2.2.2)) h16 (y17.1,y17.2.1,y17.2.2.1,r1.1,y17.2.2.2.2))[h18]?) fun y19=>
   Option.bind (a0) fun h20=>
   Option.bind ((List.set (List.set (List.set a3 h14 (y15.1,y15.2.1,w64 (y13.2.2.1+(w64 (y11.2.1 - r1.1))),y15.2.2.2)) h16 (y17.1,y17.2.1,y17.2.2.1,r1.1,y17.2.2.2.2)) h18 (y19.1,0,y19.2.2))[h20]?) fun y21=>
   some (w64 (a1 - (w64 (y11.2.1 - r1.1))),List.set (List.set (List.set (List.set a3 h14 (y15.1,y15.2.1,w64 (y13.2.2.1+(w64 (y11.2.1 - r1.1))),y15.2.2.2)) h16 (y17.1,y17.2.1,y17.2.2.1,r1.1,y17.2.2.2.2)) h18 (y19.1,0,y19.2.2)) h20 (y21.1,y21.2.1,y21.2.2.1,y21.2.2.2.1,a2),())
abbrev yp:Type:=(List bJ)×Int×(List (Option Nat))×(List cH)×Int×Int×(List ((List UInt8)×(Option Nat)))×(List au)×Unit
abbrev yl:Type:=(((List (Option Nat))×(List Int)×(List au)×Unit) ⊕ ((List bJ)×Int×(List (Option Nat))×(List ((List UInt8)×(Option Nat)))×(List au)×Unit))
noncomputable def LI (x1:yp) (again:yp→Option yl):Option yl:=
 match x1 with
 | (A,B,C,D,E,F,G,H,_)=>
 bif decide (F<E) then
  Option.bind (idx D F) fun y2=>
  Option.bind (G6 y2.2.2.1) fun r3=>
  chk (decide (((C.length)+1)*8≤140737488355328)&&decide ((C.length)+1≤maxLen)) <|
  again (A,B,C++[(some (H.length))],D,E,w64 (F+1),tP (k:= .str) (v:= .hnd) G y2.1 (some (H.length)),H++[(y2,r3.1,0,0,0)],())
 else
  some (Sum.inr (A,B,C,G,H,()))
abbrev wD:Type:=Int×(List (Option Nat))×(List Int)×Int×(List bJ)×Int×Int×(List (List UInt8))×Int×Int×Int×Int×Int×(List (List UInt8))×(List (Option Nat))×(List ((List UInt8)×(Option Nat)))×(List au)×Unit
abbrev wo:Type:=((((List (Option Nat))×(List Int)×(List au)×Unit) ⊕ ((List (Option Nat))×(List Int)×(List au)×Unit)) ⊕ (Int×(List (Option Nat))×(List Int)×Int×(List bJ)×Int×Int×Int×Int×Int×(List (List UInt8))×(List (Option Nat))×(List ((List UInt8)×(Option Nat)))×(List au)×Unit))
noncomputable def KT (x1:wD) (again:wD→Option wo):Option wo:=
 match x1 with
 | (A,B,C,D,E,F,G,H,I,J,K,L,M,N,O,P,Q,_)=>
 bif decide (J<I) then
  Option.bind (idx H J) fun y2=>
  bif !(Option.isNone (Option.getD (kG (k:= .str) (v:= .hnd) P y2) none)) then
   Option.bind (zO (Option.getD (kG (k:= .str) (v:= .hnd) P y2) none) K Q) fun r3=>
   bif r3.1 then
    Option.bind (E4 (Option.getD (kG (k:= .str) (v:= .hnd) P y2) none) D K Q) fun r4=>
    again (A,B,C,r4.1,E,F,G,H,I,w64 (J+1),K,L,M,N,O,P,r4.2.1,())
   else
    again (A,B,C,D,E,F,G,H,I,w64 (J+1),K,L,M,N,O,P,Q,())
  else
   again (A,B,C,D,E,F,G,H,I,w64 (J+1),K,L,M,N,O,P,Q,())
 else
  some (Sum.inr (A,B,C,D,E,F,G,K,L,M,N,O,P,Q,()))
abbrev wW:Type:=Int×(List (Option Nat))×(List Int)×Int×(List bJ)×Int×Int×Int×Int×Int×Int×Int×(List (List UInt8))×(List (Option Nat))×(List ((List UInt8)×(Option Nat)))×(List au)×Unit
abbrev wY:Type:=((((List (Option Nat))×(List Int)×(List au)×Unit) ⊕ ((List (Option Nat))×(List Int)×(List au)×Unit)) ⊕ (Int×(List (Option Nat))×(List Int)×Int×(List bJ)×Int×Int×(List (Option Nat))×(List ((List UInt8)×(Option Nat)))×(List au)×Unit))
noncomputable def KX (x1:wW) (again:wW→Option wY):Option wY:=
 match x1 with
 | (A,B,C,D,E,F,G,H,I,J,K,L,M,N,O,P,_)=>
 bif decide (I<H) then
  chk (decide (0≤I)&&decide (I<(N.length:Int))) <|
  Option.bind (N[I.toNat]?) fun y2=>
  bif decide (D>0) then
   Option.bind (zO y2 J P) fun r3=>
   bif r3.1 then
    Option.bind (xM y2 D J P) fun r4=>
    again (A,B,C,r4.1,E,F,G,H,w64 (I+1),J,K,L,M,N,O,r4.2.1,())
   else
    again (A,B,C,D,E,F,G,H,w64 (I+1),J,K,L,M,N,O,P,())
  else
   again (A,B,C,D,E,F,G,H,w64 (I+1),J,K,L,M,N,O,P,())
 else
  some (Sum.inr (A,B,C,D,E,F,G,N,O,P,()))
abbrev wH:Type:=Int×(List (Option Nat))×(List Int)×(List bJ)×Int×Int×(List (Option Nat))×(List ((List UInt8)×(Option Nat)))×(List au)×Unit
abbrev wV:Type:=(((List (Option Nat))×(List Int)×(List au)×Unit) ⊕ ((List (Option Nat))×(List Int)×(List au)×Unit))
noncomputable def KH (x1:wH) (again:wH→Option wV):Option wV:=
 match x1 with
 | (A,B,C,D,E,F,G,H,I,_)=>
 bif decide (F<E) then
  Option.bind (idx D F) fun y2=>
  bif decide (y2.1>A) then
   some (Sum.inr (B,C,I,()))
  else
   Option.bind (G6 y2.2.1) fun r3=>
   aP (β:=(((List (Option Nat))×(List Int)×(List au)×Unit) ⊕ ((List (Option Nat))×(List Int)×(List au)×Unit))) (γ:=(Int×(List (Option Nat))×(List Int)×Int×(List bJ)×Int×Int×Int×Int×Int×(List (List UInt8))×(List (Option Nat))×(List ((List UInt8)×(Option Nat)))×(List au)×Unit)) (
    iter (X:=wD) (β:=wo) (A.natAbs+(B.length+(C.length+(r3.1.natAbs+(D.length+(E.natAbs+(F.natAbs+(y2.2.2.length+(Int.natAbs ((y2.2.2.length:Int))+(Int.natAbs (0:Int)+(y2.1.natAbs+(y2.2.1.1.natAbs+(y2.2.1.2.natAbs+(y2.2.2.length+(G.length+(H.length+(I.length+2))))))))))))))))) (A,B,C,r3.1,D,E,F,y2.2.2,(y2.2.2.length:Int),0,y2.1,y2.2.1.1,y2.2.1.2,y2.2.2,G,H,I,()) (KT)) fun v4=>
   aP (β:=(((List (Option Nat))×(List Int)×(List au)×Unit) ⊕ ((List (Option Nat))×(List Int)×(List au)×Unit))) (γ:=(Int×(List (Option Nat))×(List Int)×Int×(List bJ)×Int×Int×(List (Option Nat))×(List ((List UInt8)×(Option Nat)))×(List au)×Unit)) (
    iter (X:=wW) (β:=wY) (v4.1.natAbs+(v4.2.1.length+(v4.2.2.1.length+(v4.2.2.2.1.natAbs+(v4.2.2.2.2.1.length+(v4.2.2.2.2.2.1.natAbs+(v4.2.2.2.2.2.2.1.natAbs+(Int.natAbs ((v4.2.2.2.2.2.2.2.2.2.2.2.1.length:Int))+(Int.natAbs (0:Int)+(v4.2.2.2.2.2.2.2.1.natAbs+(v4.2.2.2.2.2.2.2.2.1.natAbs+(v4.2.2.2.2.2.2.2.2.2.1.natAbs+(v4.2.2.2.2.2.2.2.2.2.2.1.length+(v4.2.2.2.2.2.2.2.2.2.2.2.1.length+(v4.2.2.2.2.2.2.2.2.2.2.2.2.1.length+(v4.2.2.2.2.2.2.2.2.2.2.2.2.2.1.length+2)))))))))))))))) (v4.1,v4.2.1,v4.2.2.1,v4.2.2.2.1,v4.2.2.2.2.1,v4.2.2.2.2.2.1,v4.2.2.2.2.2.2.1,(v4.2.2.2.2.2.2.2.2.2.2.2.1.length:Int),0,v4.2.2.2.2.2.2.2.1,v4.2.2.2.2.2.2.2.2.1,v4.2.2.2.2.2.2.2.2.2.1,v4.2.2.2.2.2.2.2.2.2.2.1,v4.2.2.2.2.2.2.2.2.2.2.2.1,v4.2.2.2.2.2.2.2.2.2.2.2.2.1,v4.2.2.2.2.2.2.2.2.2.2.2.2.2.1,()) (KX)) fun v5=>
   chk (decide (((v5.2.2.1.length)+1)*8≤140737488355328)&&decide ((v5.2.2.1.length)+1≤maxLen)) <|
   again (v5.1,v5.2.1,v5.2.2.1++[v5.2.2.2.1],v5.2.2.2.2.1,v5.2.2.2.2.2.1,w64 (v5.2.2.2.2.2.2.1+1),v5.2.2.2.2.2.2.2.1,v5.2.2.2.2.2.2.2.2.1,v5.2.2.2.2.2.2.2.2.2.1,())
 else
  some (Sum.inr (B,C,I,()))
noncomputable def Io (a0:List cH) (a1:List bJ) (a2:Int) (a3:List au):Option ((List (Option Nat))×(List Int)×(List au)×Unit):=
 aP (β:=((List (Option Nat))×(List Int)×(List au)×Unit)) (γ:=((List bJ)×Int×(List (Option Nat))×(List ((List UInt8)×(Option Nat)))×(List au)×Unit)) (
  iter (X:=yp) (β:=yl) (List.length a1+(Int.natAbs a2+(List.length ([]:List (Option Nat))+(List.length a0+(Int.natAbs ((List.length a0:Int))+(Int.natAbs (0:Int)+(List.length ([]:List ((List UInt8)×(Option Nat)))+(List.length a3+2)))))))) (a1,a2,[],a0,(List.length a0:Int),0,[],a3,()) (LI)) fun v4=>
 Option.bind (wg v4.2.2.1) fun r5=>
 Option.bind (oF r5.1 () v4.2.2.2.2.1) fun r6=>
 aP (β:=((List (Option Nat))×(List Int)×(List au)×Unit)) (γ:=((List (Option Nat))×(List Int)×(List au)×Unit)) (
  iter (X:=wH) (β:=wV) (v4.2.1.natAbs+(v4.2.2.1.length+(List.length ([]:List Int)+(v4.1.length+(Int.natAbs ((v4.1.length:Int))+(Int.natAbs (0:Int)+(r6.1.length+(v4.2.2.2.1.length+(v4.2.2.2.2.1.length+2))))))))) (v4.2.1,v4.2.2.1,[],v4.1,(v4.1.length:Int),0,r6.1,v4.2.2.2.1,v4.2.2.2.2.1,()) (KH)) fun v20=>
 some (v20.1,v20.2.1,v20.2.2.1,())
abbrev ov:Type:=(List Int)×Unit
abbrev yu:Type:=(((List Int)×Unit) ⊕ ((List Int)×Unit))
def yw (x1:ov) (again:ov→Option yu):Option yu:=
 bif decide (((x1.1.length:Int))>0) then
  Option.bind (idx x1.1 (w64 (((x1.1.length:Int)) - 1))) fun y2=>
  bif y2==0 then
   chk (decide (0≤(0:Int))&&decide ((0:Int)≤(w64 (((x1.1.length:Int)) - 1)))&&decide ((w64 (((x1.1.length:Int)) - 1))≤(x1.1.length:Int))) <|
   again (List.drop 0 (List.take (Int.toNat (w64 (((x1.1.length:Int)) - 1))) x1.1),())
  else
   some (Sum.inr (x1.1,()))
 else
  some (Sum.inr (x1.1,()))
def pI (a0:List Int):Option ((List Int)×Unit):=
 aP (β:=((List Int)×Unit)) (γ:=((List Int)×Unit)) (
  iter (X:=ov) (β:=yu) (List.length a0+2) (a0,()) (yw)) fun v3=>
 some (v3.1,())
def iT (a0:Bool) (a1:List Int):Option (aa×Unit):=
 Option.bind (pI a1) fun r1=>
 bif a0 then
  some ((decide (((r1.1.length:Int))>0),r1.1),())
 else
  some ((false,r1.1),())
def bC (a0:Int):Option (aa×Unit):=
 aP (β:=(aa×Unit)) (γ:=(Int×Int×Bool×(List Int)×Unit)) (
  bif decide (a0<0) then
   some (Sum.inr (a0,bP (0 - (bP a0)),false,[],()))
  else
   some (Sum.inr (a0,bP a0,false,[],()))) fun v1=>
 Option.bind (iT (decide (v1.1<0)) [(mN v1.2.1),(mN (Int.fdiv v1.2.1 (2 ^ 32)))]) fun r2=>
 some (r2.1,())
abbrev u6:Type:=(List Int)×(List Int)×Int×(List Int)×Int×Int×Unit
abbrev ve:Type:=(((List Int)×Unit) ⊕ ((List Int)×Int×Unit))
def uL (x1:u6) (again:u6→Option ve):Option ve:=
 match x1 with
 | (A,B,C,D,E,F,_)=>
 bif decide (F<E) then
  Option.bind (idx D F) fun y2=>
  aP (β:=(((List Int)×Unit) ⊕ ((List Int)×Int×Unit))) (γ:=((List Int)×(List Int)×Int×(List Int)×Int×Int×Unit)) (
   bif decide (F<((A.length:Int))) then
    Option.bind (idx A F) fun y3=>
    let n4:Int:=bP ((bP (C+(bP y2)))+(bP y3))
    some (Sum.inr (A,B,n4,D,E,F,()))
   else
    some (Sum.inr (A,B,bP (C+(bP y2)),D,E,F,()))) fun v5=>
  chk (decide (((v5.2.1.length)+1)*4≤140737488355328)&&decide ((v5.2.1.length)+1≤maxLen)) <|
  again (v5.1,v5.2.1++[(mN v5.2.2.1)],Int.fdiv v5.2.2.1 (2 ^ 32),v5.2.2.2.1,v5.2.2.2.2.1,w64 (v5.2.2.2.2.2.1+1),())
 else
  some (Sum.inr (B,C,()))
def Bv (a0:List Int) (a1:List Int):Option ((List Int)×Unit):=
 aP (β:=((List Int)×Unit)) (γ:=((List Int)×(List Int)×Unit)) (
  bif decide (((List.length a0:Int))<((List.length a1:Int))) then
   some (Sum.inr (a1,a0,()))
  else
   some (Sum.inr (a0,a1,()))) fun v1=>
 chk (decide (0≤(0:Int))&&decide ((0:Int)≤(w64 (((v1.1.length:Int))+1)))&&decide ((4:Int)*(w64 (((v1.1.length:Int))+1))≤281474976710656)&&decide ((w64 (((v1.1.length:Int))+1))≤9223372036854775807)) <|
 aP (β:=((List Int)×Unit)) (γ:=((List Int)×Int×Unit)) (
  iter (X:=u6) (β:=ve) (v1.2.1.length+(List.length ([]:List Int)+(Int.natAbs (0:Int)+(v1.1.length+(Int.natAbs ((v1.1.length:Int))+(Int.natAbs (0:Int)+2)))))) (v1.2.1,[],0,v1.1,(v1.1.length:Int),0,()) (uL)) fun v7=>
 chk (decide (((v7.1.length)+1)*4≤140737488355328)&&decide ((v7.1.length)+1≤maxLen)) <|
 some (v7.1++[(mN v7.2.1)],())
abbrev sK:Type:=(List Int)×(List Int)×Int×Unit
abbrev sj:Type:=((Int×Unit) ⊕ Unit)
def oO (x1:sK) (again:sK→Option sj):Option sj:=
 match x1 with
 | (A,B,C,_)=>
 bif decide (C≥0) then
  Option.bind (idx A C) fun y2=>
  Option.bind (idx B C) fun y3=>
  bif y2 != y3 then
   Option.bind (idx A C) fun y4=>
   Option.bind (idx B C) fun y5=>
   bif decide (y4<y5) then
    some (Sum.inl ((-1),()))
   else
    some (Sum.inl (1,()))
  else
   again (A,B,w64 (C - 1),())
 else
  some (Sum.inr ())
def tu (a0:List Int) (a1:List Int):Option (Int×Unit):=
 bif ((List.length a0:Int)) != ((List.length a1:Int)) then
  some (w64 (((List.length a0:Int)) - ((List.length a1:Int))),())
 else
  aP (β:=(Int×Unit)) (γ:=Unit) (
   iter (X:=sK) (β:=sj) (List.length a0+(List.length a1+(Int.natAbs (w64 (((List.length a0:Int)) - 1))+2))) (a0,a1,w64 (((List.length a0:Int)) - 1),()) (oO)) fun _=>
  some (0,())
abbrev xZ:Type:=(List Int)×(List Int)×Int×(List Int)×Int×Int×Unit
abbrev xX:Type:=(((List Int)×Unit) ⊕ ((List Int)×Unit))
def xV (x1:xZ) (again:xZ→Option xX):Option xX:=
 match x1 with
 | (A,B,C,D,E,F,_)=>
 bif decide (F<E) then
  Option.bind (idx D F) fun y2=>
  aP (β:=(((List Int)×Unit) ⊕ ((List Int)×Unit))) (γ:=((List Int)×(List Int)×Int×(List Int)×Int×Int×Unit)) (
   bif decide (F<((A.length:Int))) then
    Option.bind (idx A F) fun y3=>
    let n4:Int:=bP ((bP ((bP y2) - C)) - (bP y3))
    some (Sum.inr (A,B,n4,D,E,F,()))
   else
    some (Sum.inr (A,B,bP ((bP y2) - C),D,E,F,()))) fun v5=>
  chk (decide (((v5.2.1.length)+1)*4≤140737488355328)&&decide ((v5.2.1.length)+1≤maxLen)) <|
  again (v5.1,v5.2.1++[(mN v5.2.2.1)],bP (((BitVec.ofInt (IntKind.bits .u64) (Int.fdiv v5.2.2.1 (2 ^ 32)) &&& BitVec.ofInt (IntKind.bits .u64) 1).toNat:Int)),v5.2.2.2.1,v5.2.2.2.2.1,w64 (v5.2.2.2.2.2.1+1),())
 else
  some (Sum.inr (B,()))
def vF (a0:List Int) (a1:List Int):Option ((List Int)×Unit):=
 chk (decide (0≤(0:Int))&&decide ((0:Int)≤((List.length a0:Int)))&&decide ((4:Int)*((List.length a0:Int))≤281474976710656)&&decide (((List.length a0:Int))≤9223372036854775807)) <|
 aP (β:=((List Int)×Unit)) (γ:=((List Int)×Unit)) (
  iter (X:=xZ) (β:=xX) (List.length a1+(List.length ([]:List Int)+(Int.natAbs (0:Int)+(List.length a0+(Int.natAbs ((List.length a0:Int))+(Int.natAbs (0:Int)+2)))))) (a1,[],0,a0,(List.length a0:Int),0,()) (xV)) fun v6=>
 Option.bind (pI v6.1) fun r7=>
 some (r7.1,())
abbrev uk:Type:=(List Int)×Int×Bool×(List Int)×Bool×(List Int)×Bool×(List Int)×Bool×(List Int)×(List Int)×Unit
abbrev uf:Type:=((aa×aa×Unit) ⊕ ((List Int)×Bool×(List Int)×Bool×(List Int)×(List Int)×Unit))
def uj (x1:uk) (again:uk→Option uf):Option uf:=
 match x1 with
 | (A,B,C,D,E,F,G,H,I,J,K,_)=>
 bif decide (B≥0) then
  Option.bind (Bv A A) fun r2=>
  chk (decide (0≤(0:Int))&&decide ((0:Int)<(r2.1.length:Int))) <|
  Option.bind (r2.1[0]?) fun y3=>
  Option.bind (idx D (w64 (Int.tdiv B 32))) fun y4=>
  chk (decide (0≤(Int.tmod B 32))) <|
  let n5:Int:=mN (((BitVec.ofInt (IntKind.bits .u32) (Int.fdiv y4 (2 ^ (min (Int.toNat (Int.tmod B 32)) (IntKind.bits .u32)))) &&& BitVec.ofInt (IntKind.bits .u32) 1).toNat:Int))
  chk (decide (0≤(0:Int))&&decide ((0:Int)<(r2.1.length:Int))) <|
  Option.bind (r2.1[0]?) fun _=>
  Option.bind (pI (List.set r2.1 0 (mN (((BitVec.ofInt (IntKind.bits .u32) y3 ||| BitVec.ofInt (IntKind.bits .u32) n5).toNat:Int))))) fun r6=>
  Option.bind (tu r6.1 F) fun r7=>
  bif decide (r7.1≥0) then
   Option.bind (vF r6.1 F) fun r8=>
   chk (decide (0≤(w64 (Int.tdiv B 32)))&&decide ((w64 (Int.tdiv B 32))<(K.length:Int))) <|
   Option.bind (K[(w64 (Int.tdiv B 32)).toNat]?) fun y9=>
   chk (decide (0≤(Int.tmod B 32))) <|
   let n10:Int:=mN (((BitVec.ofInt (IntKind.bits .u32) y9 ||| BitVec.ofInt (IntKind.bits .u32) (mN (1*2 ^ (min (Int.toNat (Int.tmod B 32)) (IntKind.bits .u32))))).toNat:Int))
   chk (decide (0≤(w64 (Int.tdiv B 32)))&&decide ((w64 (Int.tdiv B 32))<(K.length:Int))) <|
   Option.bind (K[(w64 (Int.tdiv B 32)).toNat]?) fun _=>
   again (r8.1,w64 (B - 1),C,D,E,F,G,H,I,J,List.set K (w64 (Int.tdiv B 32)).toNat n10,())
  else
   again (r6.1,w64 (B - 1),C,D,E,F,G,H,I,J,K,())
 else
  some (Sum.inr (A,G,H,I,J,K,()))
def rq (a0:aa) (a1:aa):Option (aa×aa×Unit):=
 chk (decide (0≤((a0.2.length:Int)))&&decide (((a0.2.length:Int))≤((a0.2.length:Int)))&&decide ((4:Int)*((a0.2.length:Int))≤281474976710656)&&decide (((a0.2.length:Int))≤9223372036854775807)) <|
 let n1:Int:=w64 ((w64 (((a0.2.length:Int))*32)) - 1)
 aP (β:=(aa×aa×Unit)) (γ:=((List Int)×Bool×(List Int)×Bool×(List Int)×(List Int)×Unit)) (
  iter (X:=uk) (β:=uf) (List.length ([]:List Int)+(Int.natAbs n1+(a0.2.length+(a1.2.length+(List.length ([]:List Int)+(List.length ([]:List Int)+(List.length ((List.replicate (Int.toNat ((a0.2.length:Int))) 0):List Int)+2))))))) ([],n1,a0.1,a0.2,a1.1,a1.2,false,[],false,[],List.replicate (Int.toNat ((a0.2.length:Int))) 0,()) (uj)) fun v14=>
 Option.bind (iT false v14.2.2.2.2.2.1) fun r15=>
 Option.bind (iT false v14.1) fun r16=>
 some (r15.1,r16.1,())
def aB (a0:aa):Option (Int×Unit):=
 bif a0.1 then
  some ((-1),())
 else
  bif ((a0.2.length:Int))==0 then
   some (0,())
  else
   some (1,())
def aA (a0:aa):Option (aa×Unit):=
 Option.bind (iT (!a0.1) a0.2) fun r1=>
 some (r1.1,())
abbrev se:Type:=Int×Int×(List Int)×Int×Int×Bool×(List Int)×Unit
abbrev sN:Type:=((Int×Bool×Unit) ⊕ (Int×Int×Bool×(List Int)×Unit))
def sH (x1:se) (again:se→Option sN):Option sN:=
 match x1 with
 | (A,B,C,D,E,F,G,_)=>
 bif decide (E<D) then
  Option.bind (idx C E) fun y2=>
  chk (decide (0≤(w64 (32*E)))) <|
  let n3:Int:=bP ((bP y2)*2 ^ (min (Int.toNat (w64 (32*E))) (IntKind.bits .u64)))
  again (A,bP (((BitVec.ofInt (IntKind.bits .u64) B ||| BitVec.ofInt (IntKind.bits .u64) n3).toNat:Int)),C,D,w64 (E+1),F,G,())
 else
  some (Sum.inr (A,B,F,G,()))
def nF (a0:aa) (a1:Int):Option (Int×Bool×Unit):=
 bif decide (((a0.2.length:Int))>2) then
  some (0,false,())
 else
  aP (β:=(Int×Bool×Unit)) (γ:=(Int×Int×Bool×(List Int)×Unit)) (
   iter (X:=se) (β:=sN) (Int.natAbs a1+(Int.natAbs (0:Int)+(a0.2.length+(Int.natAbs ((a0.2.length:Int))+(Int.natAbs (0:Int)+(a0.2.length+2)))))) (a1,0,a0.2,(a0.2.length:Int),0,a0.1,a0.2,()) (sH)) fun v4=>
  bif decide (v4.2.1>(bP v4.1)) then
   some (0,false,())
  else
   bif v4.2.2.1 then
    some (w64 (0 - (w64 v4.2.1)),true,())
   else
    some (w64 v4.2.1,true,())
def qs (a0:aa) (a1:Int):Option (ak×Int×Unit):=
 Option.bind (nF a0 1000000000000000) fun r1=>
 bif !r1.2.1 then
  some ((0,0),1,())
 else
  some ((r1.1,a1),0,())
abbrev ye:Type:=Int×Bool×(List Int)×Int×Int×Bool×(List Int)×Unit
abbrev x5:Type:=((ak×Int×Unit) ⊕ (Int×Bool×(List Int)×Int×Int×Unit))
def LM (x1:ye) (again:ye→Option x5):Option x5:=
 match x1 with
 | (A,B,C,D,E,F,G,_)=>
 bif decide (A>0) then
  Option.bind (rq (B,C) (F,G)) fun r2=>
  Option.bind (aB r2.2.1) fun r3=>
  bif r3.1 != 0 then
   some (Sum.inr (A,B,C,D,E,()))
  else
   Option.bind (aB (B,C)) fun r4=>
   bif decide (r4.1<0) then
    Option.bind (aA r2.1) fun r5=>
    again (w64 (A - 1),r5.1.1,r5.1.2,D,E,F,G,())
   else
    again (w64 (A - 1),r2.1.1,r2.1.2,D,E,F,G,())
 else
  some (Sum.inr (A,B,C,D,E,()))
def H6 (a0:aa) (a1:Int):Option (ak×Int×Unit):=
 Option.bind (bC 10) fun r1=>
 aP (β:=(ak×Int×Unit)) (γ:=(Int×Bool×(List Int)×Int×Int×Unit)) (
  iter (X:=ye) (β:=x5) (Int.natAbs a1+(a0.2.length+(Int.natAbs (0:Int)+(Int.natAbs (0:Int)+(r1.1.2.length+2))))) (a1,a0.1,a0.2,0,0,r1.1.1,r1.1.2,()) (LM)) fun v7=>
 Option.bind (qs (v7.2.1,v7.2.2.1) v7.1) fun r8=>
 some (r8.1,r8.2.1,())
def MH (a0:Int):Option (ak×Int×Unit):=
 Option.bind (bC a0) fun r1=>
 Option.bind (H6 r1.1 4) fun r2=>
 some (r2.1,r2.2.1,())
def vK (a0:Int):Option (ak×Unit):=
 Option.bind (MH a0) fun r1=>
 some (r1.1,())
abbrev FE:Type:=(List Int)×(List jS)×(List (Option Nat))×Int×Int×(List au)×Unit
abbrev Fv:Type:=(((List jS)×(List ak)×Int×Unit) ⊕ ((List Int)×(List jS)×(List au)×Unit))
noncomputable def QH (x1:FE) (again:FE→Option Fv):Option Fv:=
 match x1 with
 | (A,B,C,D,E,F,_)=>
 bif decide (E<D) then
  Option.bind (idx C E) fun y2=>
  Option.bind (y2) fun h3=>
  Option.bind (F[h3]?) fun y4=>
  Option.bind (y2) fun h5=>
  Option.bind (F[h5]?) fun y6=>
  Option.bind (vK y6.2.2.1) fun r7=>
  Option.bind (y2) fun h8=>
  Option.bind (F[h8]?) fun y9=>
  Option.bind (vK y9.2.2.2.1) fun r10=>
  Option.bind (y2) fun h11=>
  Option.bind (F[h11]?) fun y12=>
  chk (decide (((B.length)+1)*56≤140737488355328)&&decide ((B.length)+1≤maxLen)) <|
  again (A,B++[(y4.1.1,r7.1,r10.1,y12.2.2.2.2)],C,D,w64 (E+1),F,())
 else
  some (Sum.inr (A,B,F,()))
abbrev DO:Type:=(List jS)×(List ak)×(List Int)×Int×Int×(List au)×Unit
abbrev Dw:Type:=(((List jS)×(List ak)×Int×Unit) ⊕ ((List jS)×(List ak)×(List au)×Unit))
noncomputable def Po (x1:DO) (again:DO→Option Dw):Option Dw:=
 match x1 with
 | (A,B,C,D,E,F,_)=>
 bif decide (E<D) then
  Option.bind (idx C E) fun y2=>
  Option.bind (vK y2) fun r3=>
  chk (decide (((B.length)+1)*16≤140737488355328)&&decide ((B.length)+1≤maxLen)) <|
  again (A,B++[r3.1],C,D,w64 (E+1),F,())
 else
  some (Sum.inr (A,B,F,()))
noncomputable def Qx (a0:List cH) (a1:List bJ):Option ((List jS)×(List ak)×Int×Unit):=
 Option.bind (Gt a0 a1) fun r1=>
 bif r1.1 != 0 then
  some ([],[],r1.1,())
 else
  Option.bind (Io a0 a1 3652059 []) fun r2=>
  aP (β:=((List jS)×(List ak)×Int×Unit)) (γ:=((List Int)×(List jS)×(List au)×Unit)) (
   iter (X:=FE) (β:=Fv) (r2.2.1.length+(List.length ([]:List jS)+(r2.1.length+(Int.natAbs ((r2.1.length:Int))+(Int.natAbs (0:Int)+(r2.2.2.1.length+2)))))) (r2.2.1,[],r2.1,(r2.1.length:Int),0,r2.2.2.1,()) (QH)) fun v15=>
  aP (β:=((List jS)×(List ak)×Int×Unit)) (γ:=((List jS)×(List ak)×(List au)×Unit)) (
   iter (X:=DO) (β:=Dw) (v15.2.1.length+(List.length ([]:List ak)+(v15.1.length+(Int.natAbs ((v15.1.length:Int))+(Int.natAbs (0:Int)+(v15.2.2.1.length+2)))))) (v15.2.1,[],v15.1,(v15.1.length:Int),0,v15.2.2.1,()) (Po)) fun v19=>
  some (v19.1,v19.2.1,0,())
noncomputable def BZ:Option (Bool×Unit):=
 Option.bind (Qx [([97],5,(7,0),0,0,0)] [(6,(9,0),[])]) fun r1=>
 bif r1.2.2.1==0 then
  bif ((r1.1.length:Int))==1 then
   Option.bind (idx r1.1 0) fun y2=>
   bif y2.2.2.2==6 then
    bif ((r1.2.1.length:Int))==1 then
     Option.bind (idx r1.2.1 0) fun y3=>
     some (y3.1==2,())
    else
     some (false,())
   else
    some (false,())
  else
   some (false,())
 else
  some (false,())
end Go.Md
namespace Go.Md
open Go.Dn
end Go.Md
