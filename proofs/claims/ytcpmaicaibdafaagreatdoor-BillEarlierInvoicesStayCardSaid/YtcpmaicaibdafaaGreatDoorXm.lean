/-
  The plain models of the functions that the law reaches, first part. No condition.
-/
import Derived.Test.YtcpmaicaibdafaaGreatDoorXd
import Derived.Lib.SlTrimSet
set_option linter.all false
noncomputable section
namespace Go.Md
open Go.Dn
abbrev Bys:Type:=List UInt8
def tu (s c:Bys):Option (Bys×Unit):=
 bif decide (s.length≤9223372036854775807)&&(decide (c.length<4294967281)&&c.all fun b=>decide (b.toNat<128)) then some (Lib.trimS s c,()) else none
abbrev cc:Ty:=(.st (.pair tI tI))
abbrev ah:Type:=Int×Int
abbrev cK:Ty:=(.st (.pair tI (.pair cc (.slice .str))))
abbrev aO:Type:=Int×ah×(List Bys)
abbrev A9:Ty:=(.st (.pair .str (.pair cc (.pair cc tI))))
abbrev nc:Type:=Bys×ah×ah×Int
abbrev G9:Type:=Bool×(List Int)
abbrev gq:Ty:=(.st (.pair .str (.pair tI (.pair cc (.pair tI (.pair tI tI))))))
abbrev aR:Type:=Bys×Int×ah×Int×Int×Int
abbrev aK:Ty:=(.st (.pair gq (.pair tI (.pair tI (.pair tI tI)))))
abbrev aq:Type:=aR×Int×Int×Int×Int
abbrev aX:Ty:=(.st (.pair .bool (.slice (.int .u32))))
abbrev aG:Type:=Bool×(List Int)
def cO (a0:Bys):Option (Bool×Unit):=
 bif decide (((a0.length:Int))<1) then
  some (false,())
 else
  bif decide (((a0.length:Int))>40) then
   some (false,())
  else
   (Qq a0 0).bind fun c1=>
   bif decide ((c1.toNat:Int)<97) then
    some (false,())
   else
    (Qq a0 0).bind fun c2=>
    bif decide ((c2.toNat:Int)>122) then
     some (false,())
    else
     (tu a0 [97,98,99,100,101,102,103,104,105,106,107,108,109,110,111,112,113,114,115,116,117,118,119,120,121,122,48,49,50,51,52,53,54,55,56,57,45]).bind fun r3=>
     some (r3.1==[],())
def xS (a0:aR) (a1:aR):Option (Bool×Unit):=
 some (a0.1==a1.1,())
abbrev gB:Type:=(List aR)×aR×Int×Int×Unit
abbrev gA:Type:=((Int×Unit) ⊕ Unit)
def gz (x1:gB) (again:gB→Option gA):Option gA:=
 match x1 with
 | (A,B,C,D,_)=>
 bif decide (D<C) then
  (idx A D).bind fun y2=>
  (xS y2 B).bind fun r3=>
  bif r3.1 then
   some (.inl (D,()))
  else
   again (A,B,C,w64 (D+1),())
 else
  some (.inr ())
def pq (a0:List aR) (a1:aR):Option (Int×Unit):=
 aM (
  iter (X:=gB) (β:=gA) (a0.length+(Int.natAbs ((a0.length:Int))+(Int.natAbs (0:Int)+2))) (a0,a1,(a0.length:Int),0,()) (gz)) fun _=>
 some ((-1),())
def jh (a0:List aR) (a1:aR):Option (Bool×Unit):=
 (pq a0 a1).bind fun r1=>
 some (decide (r1.1≥0),())
def bB (a0:Int) (a1:Int) (a2:Int):Option (Bool×Unit):=
 bif decide (a0<a1) then
  some (true,())
 else
  some (decide (a0>a2),())
def mg (a0:Int):Option (Bool×Unit):=
 (bB a0 1 3652059).bind fun r1=>
 some (!r1.1,())
def bY (a0:ah):Option (Int×Unit):=
 (bB a0.1 (-1000000000000000) 1000000000000000).bind fun r1=>
 bif r1.1 then
  some (1,())
 else
  (bB a0.2 0 9).bind fun r2=>
  bif r2.1 then
   some (1,())
  else
   some (0,())
abbrev yU:Type:=Int×Int×Int×Unit
abbrev yT:Type:=((Int×Unit) ⊕ (Int×Unit))
def yR (x1:yU) (again:yU→Option yT):Option yT:=
 bif decide (x1.2.2.1<x1.2.1) then
  again (w64 (x1.1*10),x1.2.1,w64 (x1.2.2.1+1),())
 else
  some (.inr (x1.1,()))
def xh (a0:Int):Option (Int×Unit):=
 aM (
  iter (X:=yU) (β:=yT) (Int.natAbs (1:Int)+(a0.natAbs+(Int.natAbs (0:Int)+2))) (1,a0,0,()) (yR)) fun v2=>
 some (v2.1,())
def fA (a0:ah) (a1:Int):Option (Bool×Unit):=
 (xh a0.2).bind fun r1=>
 (bB a0.1 (w64 (0 - (w64 (a1*r1.1)))) (w64 (a1*r1.1))).bind fun r2=>
 some (!r2.1,())
def iy (a0:ah):Option (Int×Unit):=
 (bY a0).bind fun r1=>
 bif r1.1 != 0 then
  some (r1.1,())
 else
  bif decide (a0.1≤0) then
   some (1,())
  else
   bif decide (a0.2>4) then
    some (1,())
   else
    (fA a0 1000000000).bind fun r2=>
    bif !r2.1 then
     some (1,())
    else
     some (0,())
abbrev wk:Type:=(List aR)×(List aR)×Int×Int×Unit
abbrev wj:Type:=((Int×Unit) ⊕ Unit)
def qM (x1:wk) (again:wk→Option wj):Option wj:=
 match x1 with
 | (A,B,C,D,_)=>
 bif decide (D<C) then
  (idx B D).bind fun y2=>
  (cO y2.1).bind fun r3=>
  bif !r3.1 then
   some (.inl (5,()))
  else
   chk (decide (0≤(0:Int))&&decide ((0:Int)≤D)&&decide (D≤(A.length:Int))) <|
   (jh (List.drop 0 (List.take (Int.toNat D) A)) y2).bind fun r4=>
   bif r4.1 then
    some (.inl (7,()))
   else
    (mg y2.2.1).bind fun r5=>
    bif !r5.1 then
     some (.inl (1,()))
    else
     bif decide (D>0) then
      (idx A (w64 (D - 1))).bind fun y6=>
      bif decide (y2.2.1<y6.2.1) then
       some (.inl (8,()))
      else
       (iy y2.2.2.1).bind fun r7=>
       bif r7.1 != 0 then
        some (.inl (r7.1,()))
       else
        (bB y2.2.2.2.1 0 10000).bind fun r8=>
        bif r8.1 then
         some (.inl (1,()))
        else
         (bB y2.2.2.2.2.1 0 y2.2.2.2.1).bind fun r9=>
         bif r9.1 then
          some (.inl (1,()))
         else
          (bB y2.2.2.2.2.2 0 1000).bind fun r10=>
          bif r10.1 then
           some (.inl (1,()))
          else
           again (A,B,C,w64 (D+1),())
     else
      (iy y2.2.2.1).bind fun r11=>
      bif r11.1 != 0 then
       some (.inl (r11.1,()))
      else
       (bB y2.2.2.2.1 0 10000).bind fun r12=>
       bif r12.1 then
        some (.inl (1,()))
       else
        (bB y2.2.2.2.2.1 0 y2.2.2.2.1).bind fun r13=>
        bif r13.1 then
         some (.inl (1,()))
        else
         (bB y2.2.2.2.2.2 0 1000).bind fun r14=>
         bif r14.1 then
          some (.inl (1,()))
         else
          again (A,B,C,w64 (D+1),())
 else
  some (.inr ())
def vA (a0:List aR):Option (Int×Unit):=
 bif decide (((a0.length:Int))>200) then
  some (2,())
 else
  aM (
   iter (X:=wk) (β:=wj) (a0.length+(a0.length+(Int.natAbs ((a0.length:Int))+(Int.natAbs (0:Int)+2)))) (a0,a0,(a0.length:Int),0,()) (qM)) fun _=>
  some (0,())
abbrev jS:Type:=(List Bys)×Bys×Int×Int×Unit
abbrev jR:Type:=((Int×Unit) ⊕ Unit)
def jQ (x1:jS) (again:jS→Option jR):Option jR:=
 match x1 with
 | (A,B,C,D,_)=>
 bif decide (D<C) then
  (idx A D).bind fun y2=>
  bif B==y2 then
   some (.inl (D,()))
  else
   again (A,B,C,w64 (D+1),())
 else
  some (.inr ())
def vp (a0:List Bys) (a1:Bys):Option (Int×Unit):=
 aM (
  iter (X:=jS) (β:=jR) (a0.length+(a1.length+(Int.natAbs ((a0.length:Int))+(Int.natAbs (0:Int)+2)))) (a0,a1,(a0.length:Int),0,()) (jQ)) fun _=>
 some ((-1),())
def nq (a0:List Bys) (a1:Bys):Option (Bool×Unit):=
 (vp a0 a1).bind fun r1=>
 some (decide (r1.1≥0),())
abbrev fL:Type:=(List aO)×(List aO)×Int×Int×(List Bys)×Int×Int×Int×Int×Int×(List Bys)×Unit
abbrev fK:Type:=(((Int×Unit) ⊕ Unit) ⊕ ((List aO)×(List aO)×Int×Int×Unit))
def dP (x1:fL) (again:fL→Option fK):Option fK:=
 match x1 with
 | (A,B,C,D,E,F,G,H,I,J,K,_)=>
 bif decide (G<F) then
  (idx E G).bind fun y2=>
  (cO y2).bind fun r3=>
  bif !r3.1 then
   GO <|
    some (.inl (5,()))
  else
   chk (decide (0≤(0:Int))&&decide ((0:Int)≤G)&&decide (G≤(K.length:Int))) <|
   (nq (List.drop 0 (List.take (Int.toNat G) K)) y2).bind fun r4=>
   bif r4.1 then
    GO <|
     some (.inl (7,()))
   else
    again (A,B,C,D,E,F,w64 (G+1),H,I,J,K,())
 else
  some (.inr (A,B,C,D,()))
abbrev sM:Type:=(List aO)×(List aO)×Int×Int×Unit
abbrev sK:Type:=((Int×Unit) ⊕ Unit)
def nV (x1:sM) (again:sM→Option sK):Option sK:=
 match x1 with
 | (A,B,C,D,_)=>
 bif decide (D<C) then
  (idx B D).bind fun y2=>
  (mg y2.1).bind fun r3=>
  bif !r3.1 then
   some (.inl (1,()))
  else
   bif decide (D>0) then
    (idx A (w64 (D - 1))).bind fun y4=>
    bif decide (y2.1<y4.1) then
     some (.inl (8,()))
    else
     (iy y2.2.1).bind fun r5=>
     bif r5.1 != 0 then
      some (.inl (r5.1,()))
     else
      bif decide (((y2.2.2.length:Int))>100) then
       some (.inl (2,()))
      else
       aM (
        iter (X:=fL) (β:=fK) (A.length+(B.length+(C.natAbs+(D.natAbs+(y2.2.2.length+(Int.natAbs ((y2.2.2.length:Int))+(Int.natAbs (0:Int)+(y2.1.natAbs+(y2.2.1.1.natAbs+(y2.2.1.2.natAbs+(y2.2.2.length+2))))))))))) (A,B,C,D,y2.2.2,(y2.2.2.length:Int),0,y2.1,y2.2.1.1,y2.2.1.2,y2.2.2,()) (dP)) fun (E,F,G,H,_)=>
       again (E,F,G,w64 (H+1),())
   else
    (iy y2.2.1).bind fun r7=>
    bif r7.1 != 0 then
     some (.inl (r7.1,()))
    else
     bif decide (((y2.2.2.length:Int))>100) then
      some (.inl (2,()))
     else
      aM (
       iter (X:=fL) (β:=fK) (A.length+(B.length+(C.natAbs+(D.natAbs+(y2.2.2.length+(Int.natAbs ((y2.2.2.length:Int))+(Int.natAbs (0:Int)+(y2.1.natAbs+(y2.2.1.1.natAbs+(y2.2.1.2.natAbs+(y2.2.2.length+2))))))))))) (A,B,C,D,y2.2.2,(y2.2.2.length:Int),0,y2.1,y2.2.1.1,y2.2.1.2,y2.2.2,()) (dP)) fun (I,J,K,L,_)=>
      again (I,J,K,w64 (L+1),())
 else
  some (.inr ())
def qN (a0:List aO):Option (Int×Unit):=
 bif decide (((a0.length:Int))>500) then
  some (2,())
 else
  aM (
   iter (X:=sM) (β:=sK) (a0.length+(a0.length+(Int.natAbs ((a0.length:Int))+(Int.natAbs (0:Int)+2)))) (a0,a0,(a0.length:Int),0,()) (nV)) fun _=>
  some (0,())
def xd (a0:List aR) (a1:List aO):Option (Int×Unit):=
 (vA a0).bind fun r1=>
 bif r1.1 != 0 then
  some (r1.1,())
 else
  (qN a1).bind fun r2=>
  some (r2.1,())
def AG (a0:ah):Option (Int×Unit):=
 (xh (w64 (4 - a0.2))).bind fun r1=>
 some (w64 (a0.1*r1.1),())
def mA (a0:List (Option Nat)):Option ((List (Option Nat))×Unit):=
 bif List.isEmpty a0 then
  both (
   some ([],())) (
   chk (decide ((0+(a0.length))*8≤140737488355328)&&decide (0+(a0.length)≤maxLen)) <|
   some (a0,()))
 else
  chk (decide ((0+(a0.length))*8≤140737488355328)&&decide (0+(a0.length)≤maxLen)) <|
  some (a0,())
def xe (a0:Option Nat) (a1:List aq):Option (Int×Unit):=
 (a0).bind fun h1=>
 (a1[h1]?).bind fun y2=>
 (a0).bind fun h3=>
 (a1[h3]?).bind fun y4=>
 some (w64 (y2.1.2.1+y4.1.2.2.2.1),())
def lI (a0:Option Nat) (a1:Option Nat) (a2:List aq):Option (Int×Unit):=
 (xe a0 a2).bind fun r1=>
 (xe a1 a2).bind fun r2=>
 some (w64 (r1.1 - r2.1),())
abbrev dF:Type:=Int×Int×Unit×Int×Int×(List (Option Nat))×(List aq)×Unit
abbrev dB:Type:=((((List (Option Nat))×Unit) ⊕ ((List (Option Nat))×(List aq)×Unit)) ⊕ (Int×Int×Unit×Int×(List (Option Nat))×(List aq)×Unit))
def dz (x1:dF) (again:dF→Option dB):Option dB:=
 match x1 with
 | (A,B,C,D,E,F,G,_)=>
 bif decide (E>A) then
  chk (decide (0≤E)&&decide (E<(F.length:Int))) <|
  (F[E.toNat]?).bind fun y2=>
  chk (decide (0≤(w64 (E - 1)))&&decide ((w64 (E - 1))<(F.length:Int))) <|
  (F[(w64 (E - 1)).toNat]?).bind fun y3=>
  (lI y2 y3 G).bind fun r4=>
  bif decide (r4.1<0) then
   chk (decide (0≤(w64 (E - 1)))&&decide ((w64 (E - 1))<(F.length:Int))) <|
   (F[(w64 (E - 1)).toNat]?).bind fun y5=>
   chk (decide (0≤E)&&decide (E<(F.length:Int))) <|
   (F[E.toNat]?).bind fun y6=>
   chk (decide (0≤E)&&decide (E<(F.length:Int))) <|
   (F[E.toNat]?).bind fun _=>
   chk (decide (0≤(w64 (E - 1)))&&decide ((w64 (E - 1))<(List.length (List.set F E.toNat y5):Int))) <|
   ((List.set F E.toNat y5)[(w64 (E - 1)).toNat]?).bind fun _=>
   again (A,B,C,D,w64 (E - 1),List.set (List.set F E.toNat y5) (w64 (E - 1)).toNat y6,G,())
  else
   some (.inr (A,B,C,D,F,G,()))
 else
  some (.inr (A,B,C,D,F,G,()))
abbrev dD:Type:=Int×Int×Unit×Int×(List (Option Nat))×(List aq)×Unit
abbrev dA:Type:=(((List (Option Nat))×Unit) ⊕ ((List (Option Nat))×(List aq)×Unit))
def cC (x1:dD) (again:dD→Option dA):Option dA:=
 match x1 with
 | (A,B,C,D,E,F,_)=>
 bif decide (D<B) then
  aM (
   iter (X:=dF) (β:=dB) (A.natAbs+(B.natAbs+(D.natAbs+(D.natAbs+(E.length+2))))) (A,B,C,D,D,E,F,()) (dz)) fun (G,H,I,J,K,L,_)=>
  again (G,H,I,w64 (J+1),K,L,())
 else
  some (.inr (E,F,()))
def cR (a0:List (Option Nat)) (a1:Int) (a2:Int) (a3:Unit) (a4:List aq):Option ((List (Option Nat))×Unit):=
 aM (
  iter (X:=dD) (β:=dA) (a1.natAbs+(a2.natAbs+(Int.natAbs (w64 (a1+1))+(a0.length+2)))) (a1,a2,a3,w64 (a1+1),a0,a4,()) (cC)) fun v11=>
 some (v11.1,())
abbrev eP:Type:=Int×Int×Int×Int×(List (Option Nat))×(List aq)×Unit
abbrev eN:Type:=(((List (Option Nat))×Unit) ⊕ ((List (Option Nat))×(List aq)×Unit))
def eM (x1:eP) (again:eP→Option eN):Option eN:=
 match x1 with
 | (A,B,C,D,E,F,_)=>
 bif decide (D<C) then
  chk (decide (0≤(w64 (B+D)))&&decide ((w64 (B+D))<(E.length:Int))) <|
  (E[(w64 (B+D)).toNat]?).bind fun y2=>
  chk (decide (0≤(w64 (A+D)))&&decide ((w64 (A+D))<(E.length:Int))) <|
  (E[(w64 (A+D)).toNat]?).bind fun y3=>
  chk (decide (0≤(w64 (A+D)))&&decide ((w64 (A+D))<(E.length:Int))) <|
  (E[(w64 (A+D)).toNat]?).bind fun _=>
  chk (decide (0≤(w64 (B+D)))&&decide ((w64 (B+D))<(List.length (List.set E (w64 (A+D)).toNat y2):Int))) <|
  ((List.set E (w64 (A+D)).toNat y2)[(w64 (B+D)).toNat]?).bind fun _=>
  again (A,B,C,w64 (D+1),List.set (List.set E (w64 (A+D)).toNat y2) (w64 (B+D)).toNat y3,F,())
 else
  some (.inr (E,F,()))
def cH (a0:List (Option Nat)) (a1:Int) (a2:Int) (a3:Int) (_a4:Unit) (a5:List aq):Option ((List (Option Nat))×Unit):=
 aM (
  iter (X:=eP) (β:=eN) (a1.natAbs+(a2.natAbs+(a3.natAbs+(Int.natAbs (0:Int)+(a0.length+2))))) (a1,a2,a3,0,a0,a5,()) (eM)) fun v6=>
 some (v6.1,())
abbrev fV:Type:=Int×Unit×Int×Int×(List (Option Nat))×(List aq)×Unit
abbrev fU:Type:=(((List (Option Nat))×Unit) ⊕ (Int×Unit×Int×(List (Option Nat))×(List aq)×Unit))
def fT (x1:fV) (again:fV→Option fU):Option fU:=
 match x1 with
 | (A,B,C,D,E,F,_)=>
 bif C != D then
  bif decide (C>D) then
   (cH E (w64 (A - C)) A D B F).bind fun r2=>
   again (A,B,w64 (C - D),D,r2.1,F,())
  else
   (cH E (w64 (A - C)) (w64 ((w64 (A+D)) - C)) C B F).bind fun r3=>
   again (A,B,C,w64 (D - C),r3.1,F,())
 else
  some (.inr (A,B,C,E,F,()))
def gT (a0:List (Option Nat)) (a1:Int) (a2:Int) (a3:Int) (a4:Unit) (a5:List aq):Option ((List (Option Nat))×Unit):=
 aM (
  iter (X:=fV) (β:=fU) (a2.natAbs+(Int.natAbs (w64 (a2 - a1))+(Int.natAbs (w64 (a3 - a2))+(a0.length+2)))) (a2,a4,w64 (a2 - a1),w64 (a3 - a2),a0,a5,()) (fT)) fun (A,B,C,D,E,_)=>
 (cH D (w64 (A - C)) A C B E).bind fun r5=>
 some (r5.1,())
abbrev fG:Type:=Int×Unit×Int×Int×(List (Option Nat))×(List aq)×Unit
abbrev fE:Type:=(((List (Option Nat))×Unit) ⊕ (Int×Int×(List (Option Nat))×(List aq)×Unit))
def di (x1:fG) (again:fG→Option fE):Option fE:=
 match x1 with
 | (A,B,C,D,E,F,_)=>
 bif decide (C<D) then
  let n2:Int:=w64 (Int.fdiv (bT (w64 (C+D))) (2 ^ 1))
  chk (decide (0≤n2)&&decide (n2<(E.length:Int))) <|
  (E[n2.toNat]?).bind fun y3=>
  chk (decide (0≤A)&&decide (A<(E.length:Int))) <|
  (E[A.toNat]?).bind fun y4=>
  (lI y3 y4 F).bind fun r5=>
  bif decide (r5.1<0) then
   again (A,B,w64 (n2+1),D,E,F,())
  else
   again (A,B,C,n2,E,F,())
 else
  some (.inr (A,C,E,F,()))
abbrev fH:Type:=Int×Int×(List (Option Nat))×(List aq)×Unit
abbrev fF:Type:=(((List (Option Nat))×Unit) ⊕ ((List (Option Nat))×(List aq)×Unit))
def fD (x1:fH) (again:fH→Option fF):Option fF:=
 match x1 with
 | (A,B,C,D,_)=>
 bif decide (B<(w64 (A - 1))) then
  chk (decide (0≤(w64 (B+1)))&&decide ((w64 (B+1))<(C.length:Int))) <|
  (C[(w64 (B+1)).toNat]?).bind fun y2=>
  chk (decide (0≤B)&&decide (B<(C.length:Int))) <|
  (C[B.toNat]?).bind fun y3=>
  chk (decide (0≤B)&&decide (B<(C.length:Int))) <|
  (C[B.toNat]?).bind fun _=>
  chk (decide (0≤(w64 (B+1)))&&decide ((w64 (B+1))<(List.length (List.set C B.toNat y2):Int))) <|
  ((List.set C B.toNat y2)[(w64 (B+1)).toNat]?).bind fun _=>
  again (A,w64 (B+1),List.set (List.set C B.toNat y2) (w64 (B+1)).toNat y3,D,())
 else
  some (.inr (C,D,()))
abbrev eX:Type:=Int×Unit×Int×Int×(List (Option Nat))×(List aq)×Unit
abbrev eU:Type:=(((List (Option Nat))×Unit) ⊕ (Int×Int×(List (Option Nat))×(List aq)×Unit))
def cV (x1:eX) (again:eX→Option eU):Option eU:=
 match x1 with
 | (A,B,C,D,E,F,_)=>
 bif decide (C<D) then
  let n2:Int:=w64 (Int.fdiv (bT (w64 (C+D))) (2 ^ 1))
  chk (decide (0≤A)&&decide (A<(E.length:Int))) <|
  (E[A.toNat]?).bind fun y3=>
  chk (decide (0≤n2)&&decide (n2<(E.length:Int))) <|
  (E[n2.toNat]?).bind fun y4=>
  (lI y3 y4 F).bind fun r5=>
  bif !(decide (r5.1<0)) then
   again (A,B,w64 (n2+1),D,E,F,())
  else
   again (A,B,C,n2,E,F,())
 else
  some (.inr (A,C,E,F,()))
abbrev eY:Type:=Int×Int×(List (Option Nat))×(List aq)×Unit
abbrev eV:Type:=(((List (Option Nat))×Unit) ⊕ ((List (Option Nat))×(List aq)×Unit))
def eS (x1:eY) (again:eY→Option eV):Option eV:=
 match x1 with
 | (A,B,C,D,_)=>
 bif decide (B>A) then
  chk (decide (0≤(w64 (B - 1)))&&decide ((w64 (B - 1))<(C.length:Int))) <|
  (C[(w64 (B - 1)).toNat]?).bind fun y2=>
  chk (decide (0≤B)&&decide (B<(C.length:Int))) <|
  (C[B.toNat]?).bind fun y3=>
  chk (decide (0≤B)&&decide (B<(C.length:Int))) <|
  (C[B.toNat]?).bind fun _=>
  chk (decide (0≤(w64 (B - 1)))&&decide ((w64 (B - 1))<(List.length (List.set C B.toNat y2):Int))) <|
  ((List.set C B.toNat y2)[(w64 (B - 1)).toNat]?).bind fun _=>
  again (A,w64 (B - 1),List.set (List.set C B.toNat y2) (w64 (B - 1)).toNat y3,D,())
 else
  some (.inr (C,D,()))
abbrev eZ:Type:=Int×Int×Int×Unit×Int×Int×Int×Int×Int×(List (Option Nat))×(List aq)×Unit
abbrev eW:Type:=(((List (Option Nat))×Unit) ⊕ (Int×Int×Int×Unit×Int×Int×Int×(List (Option Nat))×(List aq)×Unit))
def cW (x1:eZ) (again:eZ→Option eW):Option eW:=
 match x1 with
 | (A,B,C,D,E,F,G,H,I,J,K,_)=>
 bif decide (G<H) then
  let n2:Int:=w64 (Int.fdiv (bT (w64 (G+H))) (2 ^ 1))
  chk (decide (0≤(w64 (I - n2)))&&decide ((w64 (I - n2))<(J.length:Int))) <|
  (J[(w64 (I - n2)).toNat]?).bind fun y3=>
  chk (decide (0≤n2)&&decide (n2<(J.length:Int))) <|
  (J[n2.toNat]?).bind fun y4=>
  (lI y3 y4 K).bind fun r5=>
  bif !(decide (r5.1<0)) then
   again (A,B,C,D,E,F,w64 (n2+1),H,I,J,K,())
  else
   again (A,B,C,D,E,F,G,n2,I,J,K,())
 else
  some (.inr (A,B,C,D,E,F,G,J,K,()))
def bU (self:((List (Option Nat))×Int×Int×Int×Unit×(List aq)×Unit)→Option ((List (Option Nat))×Unit)) (a0:List (Option Nat)) (a1:Int) (a2:Int) (a3:Int) (a4:Unit) (a5:List aq):Option ((List (Option Nat))×Unit):=
 bif (w64 (a2 - a1))==1 then
  aM (
   iter (X:=fG) (β:=fE) (a1.natAbs+(a2.natAbs+(a3.natAbs+(a0.length+2)))) (a1,a4,a2,a3,a0,a5,()) (di)) fun (A,B,C,D,_)=>
  aM (
   iter (X:=fH) (β:=fF) (B.natAbs+(A.natAbs+(C.length+2))) (B,A,C,D,()) (fD)) fun v12=>
  some (v12.1,())
 else
  bif (w64 (a3 - a2))==1 then
   aM (
    iter (X:=eX) (β:=eU) (a2.natAbs+(a1.natAbs+(a2.natAbs+(a0.length+2)))) (a2,a4,a1,a2,a0,a5,()) (cV)) fun (F,G,H,I,_)=>
   aM (
    iter (X:=eY) (β:=eV) (G.natAbs+(F.natAbs+(H.length+2))) (G,F,H,I,()) (eS)) fun v24=>
   some (v24.1,())
  else
   let n25:Int:=w64 (Int.fdiv (bT (w64 (a1+a3))) (2 ^ 1))
   aM (γ:=(Int×Int×Int×Unit×Int×Int×Int×Int×(List (Option Nat))×(List aq)×Unit)) (
    bif decide (a2>n25) then
     some (.inr (a1,a2,a3,a4,n25,w64 (n25+a2),w64 ((w64 (n25+a2)) - a3),n25,a0,a5,()))
    else
     some (.inr (a1,a2,a3,a4,n25,w64 (n25+a2),a1,a2,a0,a5,()))) fun (K,L,M,N,O,P,Q,R,S,T,_)=>
   aM (
    iter (X:=eZ) (β:=eW) (K.natAbs+(L.natAbs+(M.natAbs+(O.natAbs+(P.natAbs+(Q.natAbs+(R.natAbs+(Int.natAbs (w64 (P - 1))+(S.length+2))))))))) (K,L,M,N,O,P,Q,R,w64 (P - 1),S,T,()) (cW)) fun (U,V,W,Y,Z,A0,B0,C0,D0,_)=>
   bif decide (B0<V) then
    aM (γ:=(Int×Int×Unit×Int×Int×Int×(List (Option Nat))×(List aq)×Unit)) (
     bif decide (V<(w64 (A0 - B0))) then
      (gT C0 B0 V (w64 (A0 - B0)) Y D0).bind fun r33=>
      some (.inr (U,W,Y,Z,B0,w64 (A0 - B0),r33.1,D0,()))
     else
      some (.inr (U,W,Y,Z,B0,w64 (A0 - B0),C0,D0,()))) fun (E0,F0,G0,H0,I0,J0,K0,L0,_)=>
    bif decide (E0<I0) then
     aM (γ:=(Int×Unit×Int×Int×(List (Option Nat))×(List aq)×Unit)) (
      bif decide (I0<H0) then
       (self (K0,E0,I0,H0,G0,L0,())).bind fun r35=>
       some (.inr (F0,G0,H0,J0,r35.1,L0,()))
      else
       some (.inr (F0,G0,H0,J0,K0,L0,()))) fun (M0,N0,O0,P0,Q0,R0,_)=>
     bif decide (O0<P0) then
      bif decide (P0<M0) then
       (self (Q0,O0,P0,M0,N0,R0,())).bind fun r37=>
       some (r37.1,())
      else
       some (Q0,())
     else
      some (Q0,())
    else
     bif decide (H0<J0) then
      bif decide (J0<F0) then
       (self (K0,H0,J0,F0,G0,L0,())).bind fun r38=>
       some (r38.1,())
      else
       some (K0,())
     else
      some (K0,())
   else
    bif decide (U<B0) then
     aM (γ:=(Int×Unit×Int×Int×(List (Option Nat))×(List aq)×Unit)) (
      bif decide (B0<Z) then
       (self (C0,U,B0,Z,Y,D0,())).bind fun r39=>
       some (.inr (W,Y,Z,w64 (A0 - B0),r39.1,D0,()))
      else
       some (.inr (W,Y,Z,w64 (A0 - B0),C0,D0,()))) fun (S0,T0,U0,V0,W0,X0,_)=>
     bif decide (U0<V0) then
      bif decide (V0<S0) then
       (self (W0,U0,V0,S0,T0,X0,())).bind fun r41=>
       some (r41.1,())
      else
       some (W0,())
     else
      some (W0,())
    else
     bif decide (Z<(w64 (A0 - B0))) then
      bif decide ((w64 (A0 - B0))<W) then
       (self (C0,Z,w64 (A0 - B0),W,Y,D0,())).bind fun r42=>
       some (r42.1,())
      else
       some (C0,())
     else
      some (C0,())
def ij (a0:List (Option Nat)) (a1:Int) (a2:Int) (a3:Int) (_a4:Unit) (_a5:List aq):Nat:=a0.length+(a1.natAbs+(a2.natAbs+(a3.natAbs+2)))
def dS (a0:List (Option Nat)) (a1:Int) (a2:Int) (a3:Int) (a4:Unit) (a5:List aq):Option ((List (Option Nat))×Unit):=
 Fm (fun self x=>bU self x.1 x.2.1 x.2.2.1 x.2.2.2.1 x.2.2.2.2.1 x.2.2.2.2.2.1) (ij a0 a1 a2 a3 a4 a5) (a0,a1,a2,a3,a4,a5,())
abbrev gl:Type:=Int×Unit×Int×Int×Int×(List (Option Nat))×(List aq)×Unit
abbrev gf:Type:=(((List (Option Nat))×Unit) ⊕ (Int×Unit×Int×Int×(List (Option Nat))×(List aq)×Unit))
def fW (x1:gl) (again:gl→Option gf):Option gf:=
 match x1 with
 | (A,B,C,D,E,F,G,_)=>
 bif decide (E≤A) then
  (cR F D E B G).bind fun r2=>
  again (A,B,C,E,w64 (E+C),r2.1,G,())
 else
  some (.inr (A,B,C,D,F,G,()))
abbrev gp:Type:=Int×Unit×Int×Int×Int×(List (Option Nat))×(List aq)×Unit
abbrev gj:Type:=((((List (Option Nat))×Unit) ⊕ ((List (Option Nat))×(List aq)×Unit)) ⊕ (Int×Unit×Int×Int×(List (Option Nat))×(List aq)×Unit))
def gd (x1:gp) (again:gp→Option gj):Option gj:=
 match x1 with
 | (A,B,C,D,E,F,G,_)=>
 bif decide (E≤A) then
  (dS F D (w64 (D+C)) E B G).bind fun r2=>
  again (A,B,C,E,w64 (E+(w64 (2*C))),r2.1,G,())
 else
  some (.inr (A,B,C,D,F,G,()))
abbrev gm:Type:=Int×Unit×Int×(List (Option Nat))×(List aq)×Unit
abbrev gh:Type:=(((List (Option Nat))×Unit) ⊕ ((List (Option Nat))×(List aq)×Unit))
def fZ (x1:gm) (again:gm→Option gh):Option gh:=
 match x1 with
 | (A,B,C,D,E,_)=>
 bif decide (C<A) then
  aM (
   iter (X:=gp) (β:=gj) (A.natAbs+(C.natAbs+(Int.natAbs (0:Int)+(Int.natAbs (w64 (2*C))+(D.length+2))))) (A,B,C,0,w64 (2*C),D,E,()) (gd)) fun (F,G,H,I,J,K,_)=>
  bif decide ((w64 (I+H))<F) then
   (dS J I (w64 (I+H)) F G K).bind fun r3=>
   again (F,G,w64 (H*2),r3.1,K,())
  else
   again (F,G,w64 (H*2),J,K,())
 else
  some (.inr (D,E,()))
def lB (a0:List (Option Nat)) (a1:Int) (a2:Unit) (a3:List aq):Option ((List (Option Nat))×Unit):=
 aM (
  iter (X:=gl) (β:=gf) (a1.natAbs+(Int.natAbs (20:Int)+(Int.natAbs (0:Int)+(Int.natAbs (20:Int)+(a0.length+2))))) (a1,a2,20,0,20,a0,a3,()) (fW)) fun (A,B,C,D,E,F,_)=>
 (cR E D A B F).bind fun r4=>
 aM (
  iter (X:=gm) (β:=gh) (A.natAbs+(C.natAbs+(r4.1.length+2))) (A,B,C,r4.1,F,()) (fZ)) fun v10=>
 some (v10.1,())
def gK (a0:List (Option Nat)) (a1:Unit) (a2:List aq):Option ((List (Option Nat))×Unit):=
 (lB a0 ((a0.length:Int)) a1 a2).bind fun r1=>
 some (r1.1,())
def nW (a0:Option Nat) (a1:Int) (a2:List aq):Option (Bool×Unit):=
 (a0).bind fun h1=>
 (a2[h1]?).bind fun y2=>
 bif decide (y2.1.2.1≤a1) then
  (a0).bind fun h3=>
  (a2[h3]?).bind fun y4=>
  some (y4.2.2.2.2==0,())
 else
  some (false,())
def qO (a0:Option Nat) (a1:List aq):Option (Int×Unit):=
 (a0).bind fun h1=>
 (a1[h1]?).bind fun y2=>
 (a0).bind fun h3=>
 (a1[h3]?).bind fun y4=>
 (a0).bind fun h5=>
 (a1[h5]?).bind fun y6=>
 (xh (w64 (4 - y6.1.2.2.1.2))).bind fun r7=>
 let n8:Int:=w64 ((w64 (Int.tdiv (w64 (y2.1.2.2.1.1*y4.1.2.2.2.2.2)) 1000))*r7.1)
 (a0).bind fun h9=>
 (a1[h9]?).bind fun y10=>
 some (if y10.2.1<n8 then y10.2.1 else n8,())
def qD (a0:Option Nat) (a1:Int) (a2:Int) (a3:List aq):Option (Int×(List aq)×Unit):=
 (a0).bind fun h1=>
 (a3[h1]?).bind fun y2=>
 (a0).bind fun h3=>
 (a3[h3]?).bind fun y4=>
 (a0).bind fun h5=>
 (a3[h5]?).bind fun y6=>
 (a0).bind fun h7=>
 (a3[h7]?).bind fun y8=>
 (a0).bind fun h9=>
 ((List.set a3 h7 (y8.1,y8.2.1,w64 (y4.2.2.1+(if y2.2.1<a1 then y2.2.1 else a1)),y8.2.2.2))[h9]?).bind fun y10=>
 (a0).bind fun h11=>
 ((List.set (List.set a3 h7 (y8.1,y8.2.1,w64 (y4.2.2.1+(if y2.2.1<a1 then y2.2.1 else a1)),y8.2.2.2)) h9 (y10.1,w64 (y6.2.1 - (if y2.2.1<a1 then y2.2.1 else a1)),y10.2.2))[h11]?).bind fun y12=>
 bif y12.2.1==0 then
  (a0).bind fun h13=>
  ((List.set (List.set a3 h7 (y8.1,y8.2.1,w64 (y4.2.2.1+(if y2.2.1<a1 then y2.2.1 else a1)),y8.2.2.2)) h9 (y10.1,w64 (y6.2.1 - (if y2.2.1<a1 then y2.2.1 else a1)),y10.2.2))[h13]?).bind fun y14=>
  some (w64 (a1 - (if y2.2.1<a1 then y2.2.1 else a1)),List.set (List.set (List.set a3 h7 (y8.1,y8.2.1,w64 (y4.2.2.1+(if y2.2.1<a1 then y2.2.1 else a1)),y8.2.2.2)) h9 (y10.1,w64 (y6.2.1 - (if y2.2.1<a1 then y2.2.1 else a1)),y10.2.2)) h13 (y14.1,y14.2.1,y14.2.2.1,y14.2.2.2.1,a2),())
 else
  some (w64 (a1 - (if y2.2.1<a1 then y2.2.1 else a1)),List.set (List.set a3 h7 (y8.1,y8.2.1,w64 (y4.2.2.1+(if y2.2.1<a1 then y2.2.1 else a1)),y8.2.2.2)) h9 (y10.1,w64 (y6.2.1 - (if y2.2.1<a1 then y2.2.1 else a1)),y10.2.2),())
def qP (a0:Option Nat) (a1:Int) (a2:Int) (a3:List aq):Option (Int×(List aq)×Unit):=
 (qO a0 a3).bind fun r1=>
 (a0).bind fun h2=>
 (a3[h2]?).bind fun y3=>
 bif decide ((w64 (y3.2.1 - r1.1))>a1) then
  (qD a0 a1 a2 a3).bind fun r4=>
  some (r4.1,r4.2.1,())
 else
  (a0).bind fun h5=>
  (a3[h5]?).bind fun y6=>
  (a0).bind fun h7=>
  (a3[h7]?).bind fun y8=>
  bif decide (a2>(w64 (y6.1.2.1+y8.1.2.2.2.2.1))) then
   (qD a0 a1 a2 a3).bind fun r9=>
   some (r9.1,r9.2.1,())
  else
   (a0).bind fun h10=>
   (a3[h10]?).bind fun y11=>
   (a0).bind fun h12=>
   (a3[h12]?).bind fun y13=>
   (a0).bind fun h14=>
   (a3[h14]?).bind fun y15=>
   (a0).bind fun h16=>
   ((List.set a3 h14 (y15.1,y15.2.1,w64 (y13.2.2.1+(w64 (y11.2.1 - r1.1))),y15.2.2.2))[h16]?).bind fun y17=>
   (a0).bind fun h18=>
   ((List.set (List.set a3 h14 (y15.1,y15.2.1,w64 (y13.2.2.1+(w64 (y11.2.1 - r1.1))),y15.2.2.2)) h16 (y17.1,y17.2.1,y17.2.2.1,r1.1,y17.2.2.2.2))[h18]?).bind fun y19=>
   (a0).bind fun h20=>
   ((List.set (List.set (List.set a3 h14 (y15.1,y15.2.1,w64 (y13.2.2.1+(w64 (y11.2.1 - r1.1))),y15.2.2.2)) h16 (y17.1,y17.2.1,y17.2.2.1,r1.1,y17.2.2.2.2)) h18 (y19.1,0,y19.2.2))[h20]?).bind fun y21=>
   some (w64 (a1 - (w64 (y11.2.1 - r1.1))),List.set (List.set (List.set (List.set a3 h14 (y15.1,y15.2.1,w64 (y13.2.2.1+(w64 (y11.2.1 - r1.1))),y15.2.2.2)) h16 (y17.1,y17.2.1,y17.2.2.1,r1.1,y17.2.2.2.2)) h18 (y19.1,0,y19.2.2)) h20 (y21.1,y21.2.1,y21.2.2.1,y21.2.2.2.1,a2),())
abbrev tX:Type:=(List aO)×Int×(List (Option Nat))×(List aR)×Int×Int×(List (Bys×(Option Nat)))×(List aq)×Unit
abbrev tW:Type:=(((List (Option Nat))×(List Int)×(List aq)×Unit) ⊕ ((List aO)×Int×(List (Option Nat))×(List (Bys×(Option Nat)))×(List aq)×Unit))
def tV (x1:tX) (again:tX→Option tW):Option tW:=
 match x1 with
 | (A,B,C,D,E,F,G,H,_)=>
 bif decide (F<E) then
  (idx D F).bind fun y2=>
  (AG y2.2.2.1).bind fun r3=>
  chk (decide (((C.length)+1)*8≤140737488355328)&&decide ((C.length)+1≤maxLen)) <|
  again (A,B,C++[(some (H.length))],D,E,w64 (F+1),lP (k:= .str) (v:= .hnd) G y2.1 (some (H.length)),H++[(y2,r3.1,0,0,0)],())
 else
  some (.inr (A,B,C,G,H,()))
abbrev sw:Type:=Int×(List (Option Nat))×(List Int)×Int×(List aO)×Int×Int×(List Bys)×Int×Int×Int×Int×Int×(List Bys)×(List (Option Nat))×(List (Bys×(Option Nat)))×(List aq)×Unit
abbrev sk:Type:=((((List (Option Nat))×(List Int)×(List aq)×Unit) ⊕ ((List (Option Nat))×(List Int)×(List aq)×Unit)) ⊕ (Int×(List (Option Nat))×(List Int)×Int×(List aO)×Int×Int×Int×Int×Int×(List Bys)×(List (Option Nat))×(List (Bys×(Option Nat)))×(List aq)×Unit))
def sg (x1:sw) (again:sw→Option sk):Option sk:=
 match x1 with
 | (A,B,C,D,E,F,G,H,I,J,K,L,M,N,O,P,Q,_)=>
 bif decide (J<I) then
  (idx H J).bind fun y2=>
  bif !(Option.isNone (Option.getD (bR (k:= .str) (v:= .hnd) P y2) none)) then
   (nW (Option.getD (bR (k:= .str) (v:= .hnd) P y2) none) K Q).bind fun r3=>
   bif r3.1 then
    (qP (Option.getD (bR (k:= .str) (v:= .hnd) P y2) none) D K Q).bind fun r4=>
    again (A,B,C,r4.1,E,F,G,H,I,w64 (J+1),K,L,M,N,O,P,r4.2.1,())
   else
    again (A,B,C,D,E,F,G,H,I,w64 (J+1),K,L,M,N,O,P,Q,())
  else
   again (A,B,C,D,E,F,G,H,I,w64 (J+1),K,L,M,N,O,P,Q,())
 else
  some (.inr (A,B,C,D,E,F,G,K,L,M,N,O,P,Q,()))
abbrev sA:Type:=Int×(List (Option Nat))×(List Int)×Int×(List aO)×Int×Int×Int×Int×Int×Int×Int×(List Bys)×(List (Option Nat))×(List (Bys×(Option Nat)))×(List aq)×Unit
abbrev sr:Type:=((((List (Option Nat))×(List Int)×(List aq)×Unit) ⊕ ((List (Option Nat))×(List Int)×(List aq)×Unit)) ⊕ (Int×(List (Option Nat))×(List Int)×Int×(List aO)×Int×Int×(List (Option Nat))×(List (Bys×(Option Nat)))×(List aq)×Unit))
def si (x1:sA) (again:sA→Option sr):Option sr:=
 match x1 with
 | (A,B,C,D,E,F,G,H,I,J,K,L,M,N,O,P,_)=>
 bif decide (I<H) then
  chk (decide (0≤I)&&decide (I<(N.length:Int))) <|
  (N[I.toNat]?).bind fun y2=>
  bif decide (D>0) then
   (nW y2 J P).bind fun r3=>
   bif r3.1 then
    (qD y2 D J P).bind fun r4=>
    again (A,B,C,r4.1,E,F,G,H,w64 (I+1),J,K,L,M,N,O,r4.2.1,())
   else
    again (A,B,C,D,E,F,G,H,w64 (I+1),J,K,L,M,N,O,P,())
  else
   again (A,B,C,D,E,F,G,H,w64 (I+1),J,K,L,M,N,O,P,())
 else
  some (.inr (A,B,C,D,E,F,G,N,O,P,()))
abbrev su:Type:=Int×(List (Option Nat))×(List Int)×(List aO)×Int×Int×(List (Option Nat))×(List (Bys×(Option Nat)))×(List aq)×Unit
abbrev sj:Type:=(((List (Option Nat))×(List Int)×(List aq)×Unit) ⊕ ((List (Option Nat))×(List Int)×(List aq)×Unit))
def se (x1:su) (again:su→Option sj):Option sj:=
 match x1 with
 | (A,B,C,D,E,F,G,H,I,_)=>
 bif decide (F<E) then
  (idx D F).bind fun y2=>
  bif decide (y2.1>A) then
   some (.inr (B,C,I,()))
  else
   (AG y2.2.1).bind fun r3=>
   aM (
    iter (X:=sw) (β:=sk) (A.natAbs+(B.length+(C.length+(r3.1.natAbs+(D.length+(E.natAbs+(F.natAbs+(y2.2.2.length+(Int.natAbs ((y2.2.2.length:Int))+(Int.natAbs (0:Int)+(y2.1.natAbs+(y2.2.1.1.natAbs+(y2.2.1.2.natAbs+(y2.2.2.length+(G.length+(H.length+(I.length+2))))))))))))))))) (A,B,C,r3.1,D,E,F,y2.2.2,(y2.2.2.length:Int),0,y2.1,y2.2.1.1,y2.2.1.2,y2.2.2,G,H,I,()) (sg)) fun (J,K,L,M,N,O,P,Q,R,S,T,U,V,W,_)=>
   aM (
    iter (X:=sA) (β:=sr) (J.natAbs+(K.length+(L.length+(M.natAbs+(N.length+(O.natAbs+(P.natAbs+(Int.natAbs ((U.length:Int))+(Int.natAbs (0:Int)+(Q.natAbs+(R.natAbs+(S.natAbs+(T.length+(U.length+(V.length+(W.length+2)))))))))))))))) (J,K,L,M,N,O,P,(U.length:Int),0,Q,R,S,T,U,V,W,()) (si)) fun (Y,Z,A0,B0,C0,D0,E0,F0,G0,H0,_)=>
   chk (decide (((A0.length)+1)*8≤140737488355328)&&decide ((A0.length)+1≤maxLen)) <|
   again (Y,Z,A0++[B0],C0,D0,w64 (E0+1),F0,G0,H0,())
 else
  some (.inr (B,C,I,()))
def yQ (a0:List aR) (a1:List aO) (a2:Int) (a3:List aq):Option ((List (Option Nat))×(List Int)×(List aq)×Unit):=
 aM (
  iter (X:=tX) (β:=tW) (a1.length+(a2.natAbs+(List.length ([]:List (Option Nat))+(a0.length+(Int.natAbs ((a0.length:Int))+(Int.natAbs (0:Int)+(List.length ([]:List (Bys×(Option Nat)))+(a3.length+2)))))))) (a1,a2,[],a0,(a0.length:Int),0,[],a3,()) (tV)) fun (A,B,C,D,E,_)=>
 (mA C).bind fun r5=>
 (gK r5.1 () E).bind fun r6=>
 aM (
  iter (X:=su) (β:=sj) (B.natAbs+(C.length+(List.length ([]:List Int)+(A.length+(Int.natAbs ((A.length:Int))+(Int.natAbs (0:Int)+(r6.1.length+(D.length+(E.length+2))))))))) (B,C,[],A,(A.length:Int),0,r6.1,D,E,()) (se)) fun (F,G,H,_)=>
 some (F,G,H,())
abbrev qi:Type:=(List Int)×Unit
abbrev zF:Type:=(((List Int)×Unit) ⊕ ((List Int)×Unit))
def zC (x1:qi) (again:qi→Option zF):Option zF:=
 bif decide (((x1.1.length:Int))>0) then
  (idx x1.1 (w64 (((x1.1.length:Int)) - 1))).bind fun y2=>
  bif y2==0 then
   chk (decide (0≤(0:Int))&&decide ((0:Int)≤(w64 (((x1.1.length:Int)) - 1)))&&decide ((w64 (((x1.1.length:Int)) - 1))≤(x1.1.length:Int))) <|
   again (List.drop 0 (List.take (Int.toNat (w64 (((x1.1.length:Int)) - 1))) x1.1),())
  else
   some (.inr (x1.1,()))
 else
  some (.inr (x1.1,()))
def qI (a0:List Int):Option ((List Int)×Unit):=
 aM (
  iter (X:=qi) (β:=zF) (a0.length+2) (a0,()) (zC)) fun v3=>
 some (v3.1,())
def ko (a0:Bool) (a1:List Int):Option (aG×Unit):=
 (qI a1).bind fun r1=>
 bif a0 then
  some ((decide (((r1.1.length:Int))>0),r1.1),())
 else
  some ((false,r1.1),())
def mV (a0:Int):Option (aG×Unit):=
 aM (γ:=(Int×Int×Bool×(List Int)×Unit)) (
  bif decide (a0<0) then
   some (.inr (a0,bT (0 - (bT a0)),false,[],()))
  else
   some (.inr (a0,bT a0,false,[],()))) fun v1=>
 (ko (decide (v1.1<0)) [(oB v1.2.1),(oB (Int.fdiv v1.2.1 (2 ^ 32)))]).bind fun r2=>
 some (r2.1,())
abbrev w9:Type:=(List Int)×(List Int)×Int×(List Int)×Int×Int×Unit
abbrev w8:Type:=(((List Int)×Unit) ⊕ ((List Int)×Int×Unit))
def w6 (x1:w9) (again:w9→Option w8):Option w8:=
 match x1 with
 | (A,B,C,D,E,F,_)=>
 bif decide (F<E) then
  (idx D F).bind fun y2=>
  aM (γ:=((List Int)×(List Int)×Int×(List Int)×Int×Int×Unit)) (
   bif decide (F<((A.length:Int))) then
    (idx A F).bind fun y3=>
    let n4:Int:=bT ((bT (C+(bT y2)))+(bT y3))
    some (.inr (A,B,n4,D,E,F,()))
   else
    some (.inr (A,B,bT (C+(bT y2)),D,E,F,()))) fun (G,H,I,J,K,L,_)=>
  chk (decide (((H.length)+1)*4≤140737488355328)&&decide ((H.length)+1≤maxLen)) <|
  again (G,H++[(oB I)],Int.fdiv I (2 ^ 32),J,K,w64 (L+1),())
 else
  some (.inr (B,C,()))
def Dh (a0:List Int) (a1:List Int):Option ((List Int)×Unit):=
 aM (γ:=((List Int)×(List Int)×Unit)) (
  bif decide (((a0.length:Int))<((a1.length:Int))) then
   some (.inr (a1,a0,()))
  else
   some (.inr (a0,a1,()))) fun (A,B,_)=>
 chk (decide (0≤(0:Int))&&decide ((0:Int)≤(w64 (((A.length:Int))+1)))&&decide ((4:Int)*(w64 (((A.length:Int))+1))≤281474976710656)&&decide ((w64 (((A.length:Int))+1))≤9223372036854775807)) <|
 aM (
  iter (X:=w9) (β:=w8) (B.length+(List.length ([]:List Int)+(Int.natAbs (0:Int)+(A.length+(Int.natAbs ((A.length:Int))+(Int.natAbs (0:Int)+2)))))) (B,[],0,A,(A.length:Int),0,()) (w6)) fun (C,D,_)=>
 chk (decide (((C.length)+1)*4≤140737488355328)&&decide ((C.length)+1≤maxLen)) <|
 some (C++[(oB D)],())
abbrev ux:Type:=(List Int)×(List Int)×Int×Unit
abbrev uw:Type:=((Int×Unit) ⊕ Unit)
def qh (x1:ux) (again:ux→Option uw):Option uw:=
 match x1 with
 | (A,B,C,_)=>
 bif decide (C≥0) then
  (idx A C).bind fun y2=>
  (idx B C).bind fun y3=>
  bif y2 != y3 then
   (idx A C).bind fun y4=>
   (idx B C).bind fun y5=>
   bif decide (y4<y5) then
    some (.inl ((-1),()))
   else
    some (.inl (1,()))
  else
   again (A,B,w64 (C - 1),())
 else
  some (.inr ())
def uT (a0:List Int) (a1:List Int):Option (Int×Unit):=
 bif ((a0.length:Int)) != ((a1.length:Int)) then
  some (w64 (((a0.length:Int)) - ((a1.length:Int))),())
 else
  aM (
   iter (X:=ux) (β:=uw) (a0.length+(a1.length+(Int.natAbs (w64 (((a0.length:Int)) - 1))+2))) (a0,a1,w64 (((a0.length:Int)) - 1),()) (qh)) fun _=>
  some (0,())
abbrev zk:Type:=(List Int)×(List Int)×Int×(List Int)×Int×Int×Unit
abbrev zj:Type:=(((List Int)×Unit) ⊕ ((List Int)×Unit))
def zi (x1:zk) (again:zk→Option zj):Option zj:=
 match x1 with
 | (A,B,C,D,E,F,_)=>
 bif decide (F<E) then
  (idx D F).bind fun y2=>
  aM (γ:=((List Int)×(List Int)×Int×(List Int)×Int×Int×Unit)) (
   bif decide (F<((A.length:Int))) then
    (idx A F).bind fun y3=>
    let n4:Int:=bT ((bT ((bT y2) - C)) - (bT y3))
    some (.inr (A,B,n4,D,E,F,()))
   else
    some (.inr (A,B,bT ((bT y2) - C),D,E,F,()))) fun (G,H,I,J,K,L,_)=>
  chk (decide (((H.length)+1)*4≤140737488355328)&&decide ((H.length)+1≤maxLen)) <|
  again (G,H++[(oB I)],bT (((BitVec.ofInt (IntKind.bits .u64) (Int.fdiv I (2 ^ 32)) &&& BitVec.ofInt (IntKind.bits .u64) 1).toNat:Int)),J,K,w64 (L+1),())
 else
  some (.inr (B,()))
def xK (a0:List Int) (a1:List Int):Option ((List Int)×Unit):=
 chk (decide (0≤(0:Int))&&decide ((0:Int)≤((a0.length:Int)))&&decide ((4:Int)*((a0.length:Int))≤281474976710656)&&decide (((a0.length:Int))≤9223372036854775807)) <|
 aM (
  iter (X:=zk) (β:=zj) (a1.length+(List.length ([]:List Int)+(Int.natAbs (0:Int)+(a0.length+(Int.natAbs ((a0.length:Int))+(Int.natAbs (0:Int)+2)))))) (a1,[],0,a0,(a0.length:Int),0,()) (zi)) fun v6=>
 (qI v6.1).bind fun r7=>
 some (r7.1,())
abbrev vO:Type:=(List Int)×Int×Bool×(List Int)×Bool×(List Int)×Bool×(List Int)×Bool×(List Int)×(List Int)×Unit
abbrev vN:Type:=((aG×aG×Unit) ⊕ ((List Int)×Bool×(List Int)×Bool×(List Int)×(List Int)×Unit))
def vM (x1:vO) (again:vO→Option vN):Option vN:=
 match x1 with
 | (A,B,C,D,E,F,G,H,I,J,K,_)=>
 bif decide (B≥0) then
  (Dh A A).bind fun r2=>
  chk (decide (0≤(0:Int))&&decide ((0:Int)<(r2.1.length:Int))) <|
  (r2.1[0]?).bind fun y3=>
  (idx D (w64 (Int.tdiv B 32))).bind fun y4=>
  chk (decide (0≤(Int.tmod B 32))) <|
  let n5:Int:=oB (((BitVec.ofInt (IntKind.bits .u32) (Int.fdiv y4 (2 ^ (min (Int.toNat (Int.tmod B 32)) (IntKind.bits .u32)))) &&& BitVec.ofInt (IntKind.bits .u32) 1).toNat:Int))
  chk (decide (0≤(0:Int))&&decide ((0:Int)<(r2.1.length:Int))) <|
  (r2.1[0]?).bind fun _=>
  (qI (List.set r2.1 0 (oB (((BitVec.ofInt (IntKind.bits .u32) y3 ||| BitVec.ofInt (IntKind.bits .u32) n5).toNat:Int))))).bind fun r6=>
  (uT r6.1 F).bind fun r7=>
  bif decide (r7.1≥0) then
   (xK r6.1 F).bind fun r8=>
   chk (decide (0≤(w64 (Int.tdiv B 32)))&&decide ((w64 (Int.tdiv B 32))<(K.length:Int))) <|
   (K[(w64 (Int.tdiv B 32)).toNat]?).bind fun y9=>
   chk (decide (0≤(Int.tmod B 32))) <|
   let n10:Int:=oB (((BitVec.ofInt (IntKind.bits .u32) y9 ||| BitVec.ofInt (IntKind.bits .u32) (oB (1*2 ^ (min (Int.toNat (Int.tmod B 32)) (IntKind.bits .u32))))).toNat:Int))
   chk (decide (0≤(w64 (Int.tdiv B 32)))&&decide ((w64 (Int.tdiv B 32))<(K.length:Int))) <|
   (K[(w64 (Int.tdiv B 32)).toNat]?).bind fun _=>
   again (r8.1,w64 (B - 1),C,D,E,F,G,H,I,J,List.set K (w64 (Int.tdiv B 32)).toNat n10,())
  else
   again (r6.1,w64 (B - 1),C,D,E,F,G,H,I,J,K,())
 else
  some (.inr (A,G,H,I,J,K,()))
def wY (a0:aG) (a1:aG):Option (aG×aG×Unit):=
 chk (decide (0≤((a0.2.length:Int)))&&decide (((a0.2.length:Int))≤((a0.2.length:Int)))&&decide ((4:Int)*((a0.2.length:Int))≤281474976710656)&&decide (((a0.2.length:Int))≤9223372036854775807)) <|
 let n1:Int:=w64 ((w64 (((a0.2.length:Int))*32)) - 1)
 aM (
  iter (X:=vO) (β:=vN) (List.length ([]:List Int)+(n1.natAbs+(a0.2.length+(a1.2.length+(List.length ([]:List Int)+(List.length ([]:List Int)+(List.length ((List.replicate (Int.toNat ((a0.2.length:Int))) 0):List Int)+2))))))) ([],n1,a0.1,a0.2,a1.1,a1.2,false,[],false,[],List.replicate (Int.toNat ((a0.2.length:Int))) 0,()) (vM)) fun v14=>
 (ko false v14.2.2.2.2.2.1).bind fun r15=>
 (ko false v14.1).bind fun r16=>
 some (r15.1,r16.1,())
def kZ (a0:aG):Option (Int×Unit):=
 bif a0.1 then
  some ((-1),())
 else
  bif ((a0.2.length:Int))==0 then
   some (0,())
  else
   some (1,())
def rG (a0:aG):Option (aG×Unit):=
 (ko (!a0.1) a0.2).bind fun r1=>
 some (r1.1,())
abbrev uv:Type:=Int×Int×(List Int)×Int×Int×Bool×(List Int)×Unit
abbrev ur:Type:=((Int×Bool×Unit) ⊕ (Int×Int×Bool×(List Int)×Unit))
def uo (x1:uv) (again:uv→Option ur):Option ur:=
 match x1 with
 | (A,B,C,D,E,F,G,_)=>
 bif decide (E<D) then
  (idx C E).bind fun y2=>
  chk (decide (0≤(w64 (32*E)))) <|
  let n3:Int:=bT ((bT y2)*2 ^ (min (Int.toNat (w64 (32*E))) (IntKind.bits .u64)))
  again (A,bT (((BitVec.ofInt (IntKind.bits .u64) B ||| BitVec.ofInt (IntKind.bits .u64) n3).toNat:Int)),C,D,w64 (E+1),F,G,())
 else
  some (.inr (A,B,F,G,()))
def zh (a0:aG) (a1:Int):Option (Int×Bool×Unit):=
 bif decide (((a0.2.length:Int))>2) then
  some (0,false,())
 else
  aM (
   iter (X:=uv) (β:=ur) (a1.natAbs+(Int.natAbs (0:Int)+(a0.2.length+(Int.natAbs ((a0.2.length:Int))+(Int.natAbs (0:Int)+(a0.2.length+2)))))) (a1,0,a0.2,(a0.2.length:Int),0,a0.1,a0.2,()) (uo)) fun (A,B,C,_,_)=>
  bif decide (B>(bT A)) then
   some (0,false,())
  else
   bif C then
    some (w64 (0 - (w64 B)),true,())
   else
    some (w64 B,true,())
def yd (a0:aG) (a1:Int):Option (ah×Int×Unit):=
 (zh a0 1000000000000000).bind fun r1=>
 bif !r1.2.1 then
  some ((0,0),1,())
 else
  some ((r1.1,a1),0,())
abbrev tQ:Type:=Int×Bool×(List Int)×Int×Int×Bool×(List Int)×Unit
abbrev tP:Type:=((ah×Int×Unit) ⊕ (Int×Bool×(List Int)×Int×Int×Unit))
def tO (x1:tQ) (again:tQ→Option tP):Option tP:=
 match x1 with
 | (A,B,C,D,E,F,G,_)=>
 bif decide (A>0) then
  (wY (B,C) (F,G)).bind fun r2=>
  (kZ r2.2.1).bind fun r3=>
  bif r3.1 != 0 then
   some (.inr (A,B,C,D,E,()))
  else
   (kZ (B,C)).bind fun r4=>
   bif decide (r4.1<0) then
    (rG r2.1).bind fun r5=>
    again (w64 (A - 1),r5.1.1,r5.1.2,D,E,F,G,())
   else
    again (w64 (A - 1),r2.1.1,r2.1.2,D,E,F,G,())
 else
  some (.inr (A,B,C,D,E,()))
def uy (a0:aG) (a1:Int):Option (ah×Int×Unit):=
 (mV 10).bind fun r1=>
 aM (
  iter (X:=tQ) (β:=tP) (a1.natAbs+(a0.2.length+(Int.natAbs (0:Int)+(Int.natAbs (0:Int)+(r1.1.2.length+2))))) (a1,a0.1,a0.2,0,0,r1.1.1,r1.1.2,()) (tO)) fun v7=>
 (yd (v7.2.1,v7.2.2.1) v7.1).bind fun r8=>
 some (r8.1,r8.2.1,())
def DU (a0:Int):Option (ah×Int×Unit):=
 (mV a0).bind fun r1=>
 (uy r1.1 4).bind fun r2=>
 some (r2.1,r2.2.1,())
def kH (a0:Int):Option (ah×Unit):=
 (DU a0).bind fun r1=>
 some (r1.1,())
abbrev Cc:Type:=(List Int)×(List nc)×(List (Option Nat))×Int×Int×(List aq)×Unit
abbrev Cb:Type:=(((List nc)×(List ah)×Int×Unit) ⊕ ((List Int)×(List nc)×(List aq)×Unit))
def Ca (x1:Cc) (again:Cc→Option Cb):Option Cb:=
 match x1 with
 | (A,B,C,D,E,F,_)=>
 bif decide (E<D) then
  (idx C E).bind fun y2=>
  (y2).bind fun h3=>
  (F[h3]?).bind fun y4=>
  (y2).bind fun h5=>
  (F[h5]?).bind fun y6=>
  (kH y6.2.2.1).bind fun r7=>
  (y2).bind fun h8=>
  (F[h8]?).bind fun y9=>
  (kH y9.2.2.2.1).bind fun r10=>
  (y2).bind fun h11=>
  (F[h11]?).bind fun y12=>
  chk (decide (((B.length)+1)*56≤140737488355328)&&decide ((B.length)+1≤maxLen)) <|
  again (A,B++[(y4.1.1,r7.1,r10.1,y12.2.2.2.2)],C,D,w64 (E+1),F,())
 else
  some (.inr (A,B,F,()))
abbrev AF:Type:=(List nc)×(List ah)×(List Int)×Int×Int×(List aq)×Unit
abbrev AE:Type:=(((List nc)×(List ah)×Int×Unit) ⊕ ((List nc)×(List ah)×(List aq)×Unit))
def AD (x1:AF) (again:AF→Option AE):Option AE:=
 match x1 with
 | (A,B,C,D,E,F,_)=>
 bif decide (E<D) then
  (idx C E).bind fun y2=>
  (kH y2).bind fun r3=>
  chk (decide (((B.length)+1)*16≤140737488355328)&&decide ((B.length)+1≤maxLen)) <|
  again (A,B++[r3.1],C,D,w64 (E+1),F,())
 else
  some (.inr (A,B,F,()))
def EF (a0:List aR) (a1:List aO):Option ((List nc)×(List ah)×Int×Unit):=
 (xd a0 a1).bind fun r1=>
 bif r1.1 != 0 then
  some ([],[],r1.1,())
 else
  (yQ a0 a1 3652059 []).bind fun r2=>
  aM (
   iter (X:=Cc) (β:=Cb) (r2.2.1.length+(List.length ([]:List nc)+(r2.1.length+(Int.natAbs ((r2.1.length:Int))+(Int.natAbs (0:Int)+(r2.2.2.1.length+2)))))) (r2.2.1,[],r2.1,(r2.1.length:Int),0,r2.2.2.1,()) (Ca)) fun (A,B,C,_)=>
  aM (
   iter (X:=AF) (β:=AE) (B.length+(List.length ([]:List ah)+(A.length+(Int.natAbs ((A.length:Int))+(Int.natAbs (0:Int)+(C.length+2)))))) (B,[],A,(A.length:Int),0,C,()) (AD)) fun v19=>
  some (v19.1,v19.2.1,0,())
def CW:Option (Bool×Unit):=
 (EF [([97],5,(7,0),0,0,0)] [(6,(9,0),[])]).bind fun r1=>
 bif r1.2.2.1==0 then
  bif ((r1.1.length:Int))==1 then
   (idx r1.1 0).bind fun y2=>
   bif y2.2.2.2==6 then
    bif ((r1.2.1.length:Int))==1 then
     (idx r1.2.1 0).bind fun y3=>
     some (y3.1==2,())
    else
     some (false,())
   else
    some (false,())
  else
   some (false,())
 else
  some (false,())
end Go.Md
namespace Go.Md
open Go.Dn
end Go.Md
end
