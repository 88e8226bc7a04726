/-
  The plain models of the functions that the law reaches, fourth part. No condition.
-/
import Derived.Test.YtcndcnfjdanbeaaGreatDoorXo
import Derived.Test.YtcndcnfjdanbeaaGreatDoorXd
set_option linter.all false
noncomputable section
namespace Go.Md
open Go.Dn
abbrev slices_Sort_int (l:List Int):Option (List Int×Unit):=UE l
noncomputable section
abbrev aQ:Ty:=(.st (.pair ck (.pair tI (.pair tI (.slice bZ)))))
abbrev ak:Type:=bn×Int×Int×(List aC)
abbrev fq:Ty:=(.st (.pair bp (.pair (.slice ay) (.pair (.slice aQ) (.slice ax)))))
abbrev dO:Type:=aj×(List aa)×(List ak)×(List ah)
abbrev gR:Type:=(List (Option Nat))×Int×Int×Bys×Bys×Bys×Int×Int×(List aL)×(List aa)×Int×(List Int)×(List ah)×(List aC)×(List (Int×(Option Nat)))×Unit
abbrev jU:Type:=(((List (Option Nat))×(aj×(List aa)×(List (Int×(Option Nat)))×(List ah)×(List aC)×Int×Unit)×Unit) ⊕ ((List (Option Nat))×Bys×Bys×Bys×Int×Int×(List aL)×(List aa)×Int×(List ah)×(List aC)×(List (Int×(Option Nat)))×Unit))
def jT (x1:gR) (again:gR→Option jU):Option jU:=
 match x1 with
 | (A,B,C,D,E,F,G,H,I,J,K,L,M,N,O,_)=>
 bif decide (C<B) then
  chk (decide (0≤C)&&decide (C<(L.length:Int))) <|
  (L[C.toNat]?).bind fun y2=>
  chk (decide (((A.length)+1)*8≤140737488355328)&&decide ((A.length)+1≤maxLen)) <|
  again (A++[(Option.getD (α:=Option Nat) (nr (k:=tI) (v:= .hnd) O y2) none)],B,w64 (C+1),D,E,F,G,H,I,J,K,L,M,N,O,())
 else
  some (.inr (A,D,E,F,G,H,I,J,K,M,N,O,()))
def gI (a0:aj×(List aa)×(List (Int×(Option Nat)))×(List ah)×(List aC)×Int×Unit):Option ((List (Option Nat))×(aj×(List aa)×(List (Int×(Option Nat)))×(List ah)×(List aC)×Int×Unit)×Unit):=
 chk (OM a0.2.2.1) <|
 aI (
  iter (X:=gR) (β:=jU) (List.length ([]:List (Option Nat))+(Int.natAbs ((List.length (wP a0.2.2.1):Int))+(Int.natAbs (0:Int)+(a0.1.1.length+(a0.1.2.1.length+(a0.1.2.2.1.length+(a0.1.2.2.2.1.natAbs+(a0.1.2.2.2.2.1.natAbs+(a0.1.2.2.2.2.2.length+(a0.2.1.length+(a0.2.2.2.2.2.1.natAbs+(List.length ((wP a0.2.2.1):List Int)+(a0.2.2.2.1.length+(a0.2.2.2.2.1.length+(a0.2.2.1.length+2))))))))))))))) ([],(List.length (wP a0.2.2.1):Int),0,a0.1.1,a0.1.2.1,a0.1.2.2.1,a0.1.2.2.2.1,a0.1.2.2.2.2.1,a0.1.2.2.2.2.2,a0.2.1,a0.2.2.2.2.2.1,wP a0.2.2.1,a0.2.2.2.1,a0.2.2.2.2.1,a0.2.2.1,()) (jT)) fun (A,B,C,D,E,F,G,H,I,J,K,L,_)=>
 some (A,((B,C,D,E,F,G),H,L,J,K,I,()),())
abbrev yj:Type:=Int×Int×Int×Unit
abbrev CZ:Type:=((Int×Unit) ⊕ (Int×Unit))
def CY (x1:yj) (again:yj→Option CZ):Option CZ:=
 bif decide (x1.2.2.1<x1.2.1) then
  again (w64 (x1.1*10),x1.2.1,w64 (x1.2.2.1+1),())
 else
  some (.inr (x1.1,()))
def qG (a0:ah):Option (Int×Unit):=
 aI (
  iter (X:=yj) (β:=CZ) (a0.1.natAbs+(Int.natAbs (w64 (3 - a0.2))+(Int.natAbs (0:Int)+2))) (a0.1,w64 (3 - a0.2),0,()) (CY)) fun v2=>
 some (v2.1,())
def mA (a0:ah) (a1:ah):Option (ah×Unit):=
 (qG a0).bind fun r1=>
 (qG a1).bind fun r2=>
 (gU (w64 (r1.1+r2.1),3)).bind fun r3=>
 some (r3.1,())
def G7 (a0:ah) (a1:ah):Option (ah×Unit):=
 (mA a0 (w64 (0 - a1.1),a1.2)).bind fun r1=>
 some (r1.1,())
def zR (a0:bn):Option (ah×Unit):=
 (G7 a0.2.2.2.2.2.2.1 a0.2.2.2.2.2.2.2.2.1).bind fun r1=>
 some (r1.1,())
def qH (a0:bn):Option (bn×Unit):=
 (zR a0).bind fun r1=>
 (G7 a0.2.2.2.1 r1.1).bind fun r2=>
 bif decide (r2.1.1<0) then
  some ((a0.1,a0.2.1,a0.2.2.1,a0.2.2.2.1,a0.2.2.2.2.1,a0.2.2.2.2.2.1,a0.2.2.2.2.2.2.1,a0.2.2.2.2.2.2.2.1,a0.2.2.2.2.2.2.2.2.1,0,0),())
 else
  some ((a0.1,a0.2.1,a0.2.2.1,a0.2.2.2.1,a0.2.2.2.2.1,a0.2.2.2.2.2.1,a0.2.2.2.2.2.2.1,a0.2.2.2.2.2.2.2.1,a0.2.2.2.2.2.2.2.2.1,r2.1),())
def wV (a0:aa) (a1:Int):Option (Bool×Unit):=
 (
  bif a0.2.1==1 then
   some (a0.2.2.1==a1,())
  else
   some (false,())).bind fun v1=>
 some (v1.1,())
abbrev fR:Type:=(List aa)×Int×Int×Int×Unit
abbrev ir:Type:=((Int×Unit) ⊕ Unit)
def iq (x1:fR) (again:fR→Option ir):Option ir:=
 match x1 with
 | (A,B,C,D,_)=>
 bif decide (D<C) then
  (idx A D).bind fun y2=>
  (wV y2 B).bind fun r3=>
  bif r3.1 then
   some (.inl (D,()))
  else
   again (A,B,C,w64 (D+1),())
 else
  some (.inr ())
def jG (a0:List aa) (a1:Int):Option (Int×Unit):=
 aI (
  iter (X:=fR) (β:=ir) (a0.length+(Int.natAbs ((a0.length:Int))+(Int.natAbs (0:Int)+2))) (a0,a1,(a0.length:Int),0,()) (iq)) fun _=>
 some ((-1),())
def AF (a0:aj) (a1:List aa) (a2:Int) (a3:Int):Option (aa×Int×Unit):=
 (pq a0 a1).bind fun r1=>
 bif r1.1 != 0 then
  some ((0,0,0,0,0,[],(0,0),[],(0,0),0,0),r1.1,())
 else
  (nG a2).bind fun r2=>
  bif !r2.1 then
   some ((0,0,0,0,0,[],(0,0),[],(0,0),0,0),1,())
  else
   (
    bif decide (((a1.length:Int))>0) then
     Option.bind (idx a1 (w64 (((a1.length:Int)) - 1))) fun y3=>
     some (decide (a2<y3.1),())
    else
     some (false,())).bind fun v4=>
   bif v4.1 then
    some ((0,0,0,0,0,[],(0,0),[],(0,0),0,0),8,())
   else
    (iy a0 a1 []).bind fun r5=>
    (gQ (r5.1.1,r5.1.2.1,r5.1.2.2.1,r5.1.2.2.2.1,r5.1.2.2.2.2.1,r5.1.2.2.2.2.2.1,()) 3652059 r5.2.1).bind fun r6=>
    (jG a1 a3).bind fun r7=>
    bif decide (r7.1<0) then
     some ((0,0,0,0,0,[],(0,0),[],(0,0),0,0),5,())
    else
     (idx a1 r7.1).bind fun y8=>
     bif Option.isNone (Option.getD (α:=Option Nat) (nr (k:=tI) (v:= .hnd) r6.1.2.2.1 y8.2.2.2.2.1) none) then
      some ((0,0,0,0,0,[],(0,0),[],(0,0),0,0),5,())
     else
      (idx a1 r7.1).bind fun y9=>
      (Option.getD (α:=Option Nat) (nr (k:=tI) (v:= .hnd) r6.1.2.2.1 y9.2.2.2.2.1) none).bind fun h10=>
      (r6.2.1[h10]?).bind fun y11=>
      bif y11.2.2.2.2.2.2.2.2.2.1 != r7.1 then
       some ((0,0,0,0,0,[],(0,0),[],(0,0),0,0),5,())
      else
       bif decide (((a1.length:Int))≥2000) then
        some ((0,0,0,0,0,[],(0,0),[],(0,0),0,0),2,())
       else
        (idx a1 r7.1).bind fun y12=>
        (AJ a1 2).bind fun r13=>
        (
         Option.bind (rK y12.2.2.2.1) fun r14=>
         bif r14.1.2.2.2.2.1 then
          some (decide (y12.2.2.2.2.2.2.2.2.2.1<a2),())
         else
          some (false,())).bind fun v15=>
        bif v15.1 then
         some ((a2,2,r13.1,6,y12.2.2.2.2.1,[],(0,0),[],(0,0),0,a3),0,())
        else
         (jr (r6.1.1,r6.1.2.1,r6.1.2.2.1,r6.1.2.2.2.1,r6.1.2.2.2.2.1,r6.1.2.2.2.2.2.1,()) (Option.getD (α:=Option Nat) (nr (k:=tI) (v:= .hnd) r6.1.2.2.1 y12.2.2.2.2.1) none) (a2,2,r13.1,5,y12.2.2.2.2.1,[],(0,0),[],(0,0),0,a3) r6.2.1).bind fun r16=>
         bif r16.1 != 0 then
          some ((a2,2,r13.1,6,y12.2.2.2.2.1,[],(0,0),[],(0,0),0,a3),0,())
         else
          some ((a2,2,r13.1,5,y12.2.2.2.2.1,[],(0,0),[],(0,0),0,a3),0,())
abbrev rI:Type:=(List Int)×Int×Int×(List (Option Nat))×(List aq)×Unit
abbrev wX:Type:=(((List Int)×Int×Unit) ⊕ ((List Int)×(List aq)×Unit))
def wW (x1:rI) (again:rI→Option wX):Option wX:=
 match x1 with
 | (A,B,C,D,E,_)=>
 bif decide (C<B) then
  chk (decide (0≤C)&&decide (C<(D.length:Int))) <|
  (D[C.toNat]?).bind fun y2=>
  (y2).bind fun h3=>
  (E[h3]?).bind fun y4=>
  bif decide (y4.2.2.2.2.2.2.2.2.2.1≥0) then
   (y2).bind fun h5=>
   (E[h5]?).bind fun y6=>
   chk (decide (((A.length)+1)*8≤140737488355328)&&decide ((A.length)+1≤maxLen)) <|
   again (A++[y6.2.2.2.2.2.2.2.2.2.1],B,w64 (C+1),D,E,())
  else
   again (A,B,w64 (C+1),D,E,())
 else
  some (.inr (A,E,()))
def CG (a0:aj) (a1:List aa) (a2:Int):Option ((List Int)×Int×Unit):=
 Uh (wY a0 a1 a2 []) (fun r1=>
  bif r1.2.1 != 0 then
   some ([],r1.2.1,())
  else
   none) (
  (Cj a0 a1 a2 []).bind fun r2=>
  bif r2.2.1 != 0 then
   some ([],r2.2.1,())
  else
   (gI (r2.1.1,r2.1.2.1,r2.1.2.2.1,r2.1.2.2.2.1,r2.1.2.2.2.2.1,r2.1.2.2.2.2.2.1,())).bind fun r3=>
   aI (
    iter (X:=rI) (β:=wX) (List.length ([]:List Int)+(Int.natAbs ((r3.1.length:Int))+(Int.natAbs (0:Int)+(r3.1.length+(r2.2.2.1.length+2))))) ([],(r3.1.length:Int),0,r3.1,r2.2.2.1,()) (wW)) fun v10=>
   (slices_Sort_int v10.1).bind fun r11=>
   some (r11.1,0,()))
def A6 (a0:aj) (a1:Int):Option (Int×Unit):=
 (idx a0.2.2.2.2.2 a1).bind fun y1=>
 (lQ y1.1 1 99999).bind fun r2=>
 bif !r2.1 then
  some (1,())
 else
  (
   bif decide (a1>0) then
    Option.bind (idx a0.2.2.2.2.2 (w64 (a1 - 1))) fun y3=>
    some (decide (y1.1≤y3.1),())
   else
    some (false,())).bind fun v4=>
  bif v4.1 then
   some (8,())
  else
   (nI y1.2.1).bind fun r5=>
   bif !r5.1 then
    some (5,())
   else
    (oo y1.2.2.1 false).bind fun r6=>
    bif r6.1 != 0 then
     some (1,())
    else
     (nI y1.2.2.2.1).bind fun r7=>
     bif !r7.1 then
      some (5,())
     else
      (tT y1.2.2.2.2.1).bind fun r8=>
      bif r8.1 != 0 then
       some (1,())
      else
       (lQ y1.2.2.2.2.2 a0.2.2.2.1 3652059).bind fun r9=>
       bif !r9.1 then
        some (1,())
       else
        some (0,())
abbrev qV:Type:=Int×Int×Bys×Bys×Bys×Int×Int×(List aL)×Unit
abbrev xF:Type:=((Int×Unit) ⊕ Unit)
def qU (x1:qV) (again:qV→Option xF):Option xF:=
 match x1 with
 | (A,B,C,D,E,F,G,H,_)=>
 bif decide (B<A) then
  (A6 (C,D,E,F,G,H) B).bind fun r2=>
  bif r2.1 != 0 then
   some (.inl (r2.1,()))
  else
   again (A,w64 (B+1),C,D,E,F,G,H,())
 else
  some (.inr ())
def yR (a0:aj):Option (Int×Unit):=
 (nI a0.1).bind fun r1=>
 bif !r1.1 then
  some (5,())
 else
  (nI a0.2.1).bind fun r2=>
  bif !r2.1 then
   some (5,())
  else
   (nI a0.2.2.1).bind fun r3=>
   bif !r3.1 then
    some (5,())
   else
    bif a0.2.1==a0.2.2.1 then
     some (12,())
    else
     (zk a0.2.2.2.1).bind fun r4=>
     bif !r4.1 then
      some (1,())
     else
      (lQ a0.2.2.2.2.1 0 1000).bind fun r5=>
      bif !r5.1 then
       some (1,())
      else
       bif ((a0.2.2.2.2.2.length:Int))==0 then
        some (9,())
       else
        bif decide (((a0.2.2.2.2.2.length:Int))>500) then
         some (2,())
        else
         aI (
          iter (X:=qV) (β:=xF) (Int.natAbs ((a0.2.2.2.2.2.length:Int))+(Int.natAbs (0:Int)+(a0.1.length+(a0.2.1.length+(a0.2.2.1.length+(a0.2.2.2.1.natAbs+(a0.2.2.2.2.1.natAbs+(a0.2.2.2.2.2.length+2)))))))) ((a0.2.2.2.2.2.length:Int),0,a0.1,a0.2.1,a0.2.2.1,a0.2.2.2.1,a0.2.2.2.2.1,a0.2.2.2.2.2,()) (qU)) fun _=>
         some (0,())
end
end Go.Md
namespace Go.Md
open Go.Dn
abbrev iB (l:List ak) (i:Int) (v:List ak):=TQ 184 l i v
def Uu (a0:aj) (a1:List aa):Option (Int×Unit):=
 (yR a0).bind fun r1=>
 bif r1.1 != 0 then
  some (r1.1,())
 else
  (yQ a1).bind fun r2=>
  some (r2.1,())
abbrev mV:Type:=Int×(List ak)×Int×Int×Unit
abbrev qZ:Type:=((Int×Unit) ⊕ Unit)
def qY (x1:mV) (again:mV→Option qZ):Option qZ:=
 match x1 with
 | (A,B,C,D,_)=>
 bif decide (D<C) then
  (idx B D).bind fun y2=>
  bif y2.1.1==A then
   some (.inl (D,()))
  else
   again (A,B,C,w64 (D+1),())
 else
  some (.inr ())
def rU (a0:dO) (a1:Int):Option (Int×Unit):=
 aI (
  iter (X:=mV) (β:=qZ) (a1.natAbs+(a0.2.2.1.length+(Int.natAbs ((a0.2.2.1.length:Int))+(Int.natAbs (0:Int)+2)))) (a1,a0.2.2.1,(a0.2.2.1.length:Int),0,()) (qY)) fun _=>
 some ((-1),())
def AZ (a0:dO) (a1:bn):Option (Int×Unit):=
 (qG a1.2.2.2.1).bind fun r1=>
 let n2:Int:=w64 (r1.1+(w64 (Int.tdiv (w64 (r1.1*a0.1.2.2.2.2.1)) 1000)))
 some (n2,())
def gC (a0:dO) (a1:Int):Option (Int×Unit):=
 (idx a0.2.1 a1).bind fun y1=>
 (rU a0 y1.2.2.2.2.1).bind fun r2=>
 bif !((decide (r2.1<0))==(y1.2.2.2.1==1)) then
  bif decide (r2.1<0) then
   some (9,())
  else
   some (7,())
 else
  (
   bif decide (r2.1<0) then
    some (decide (((a0.2.2.1.length:Int))≥500),())
   else
    some (false,())).bind fun v3=>
  bif v3.1 then
   some (16,())
  else
   (
    Option.bind (D7 y1.2.2.2.1) fun r4=>
    bif r4.1.2.2.1 then
     some (decide (y1.2.2.2.2.2.2.2.2.2.1<a0.1.2.2.2.1),())
    else
     some (false,())).bind fun v5=>
   bif v5.1 then
    some (1,())
   else
    bif decide (r2.1<0) then
     some (0,())
    else
     (idx a0.2.2.1 r2.1).bind fun y6=>
     aI (γ:=(dO×Int×Bool×Int×Int×Int×Int×Int×Bys×Int×Int×Bys×Int×Int×Int×Int×Int×Bys×Bys×Int×Int×Int×Int×Int×Int×Int×Int×Int×Int×Int×Int×Int×Int×Int×(List aC)×Int×Bys×Bys×Int×Int×Int×Int×Int×Int×Int×Int×Int×Int×Int×Int×Int×Unit)) (
      bif y1.2.2.2.1==2 then
       some (.inr (a0,y1.2.2.2.1,y1.2.2.2.1==2,y1.1,y1.2.1,y1.2.2.1,y1.2.2.2.1,y1.2.2.2.2.1,y1.2.2.2.2.2.1,y1.2.2.2.2.2.2.1.1,y1.2.2.2.2.2.2.1.2,y1.2.2.2.2.2.2.2.1,y1.2.2.2.2.2.2.2.2.1.1,y1.2.2.2.2.2.2.2.2.1.2,y1.2.2.2.2.2.2.2.2.2.1,y1.2.2.2.2.2.2.2.2.2.2,y6.1.1,y6.1.2.1,y6.1.2.2.1,y6.1.2.2.2.1.1,y6.1.2.2.2.1.2,y6.1.2.2.2.2.1.1,y6.1.2.2.2.2.1.2,y6.1.2.2.2.2.2.1,y6.1.2.2.2.2.2.2.1.1,y6.1.2.2.2.2.2.2.1.2,y6.1.2.2.2.2.2.2.2.1.1,y6.1.2.2.2.2.2.2.2.1.2,y6.1.2.2.2.2.2.2.2.2.1.1,y6.1.2.2.2.2.2.2.2.2.1.2,y6.1.2.2.2.2.2.2.2.2.2.1,y6.1.2.2.2.2.2.2.2.2.2.2,y6.2.1,y6.2.2.1,y6.2.2.2,y6.1.1,y6.1.2.1,y6.1.2.2.1,y6.1.2.2.2.1.1,y6.1.2.2.2.1.2,y6.1.2.2.2.2.1.1,y6.1.2.2.2.2.1.2,y6.1.2.2.2.2.2.1,y6.1.2.2.2.2.2.2.1.1,y6.1.2.2.2.2.2.2.1.2,y6.1.2.2.2.2.2.2.2.1.1,y6.1.2.2.2.2.2.2.2.1.2,y6.1.2.2.2.2.2.2.2.2.1.1,y6.1.2.2.2.2.2.2.2.2.1.2,y6.1.2.2.2.2.2.2.2.2.2.1,y6.1.2.2.2.2.2.2.2.2.2.2,()))
      else
       bif y1.2.2.2.1==3 then
        some (.inr (a0,y1.2.2.2.1,y1.2.2.2.1==3,y1.1,y1.2.1,y1.2.2.1,y1.2.2.2.1,y1.2.2.2.2.1,y1.2.2.2.2.2.1,y1.2.2.2.2.2.2.1.1,y1.2.2.2.2.2.2.1.2,y1.2.2.2.2.2.2.2.1,y1.2.2.2.2.2.2.2.2.1.1,y1.2.2.2.2.2.2.2.2.1.2,y1.2.2.2.2.2.2.2.2.2.1,y1.2.2.2.2.2.2.2.2.2.2,y6.1.1,y6.1.2.1,y6.1.2.2.1,y6.1.2.2.2.1.1,y6.1.2.2.2.1.2,y6.1.2.2.2.2.1.1,y6.1.2.2.2.2.1.2,y6.1.2.2.2.2.2.1,y6.1.2.2.2.2.2.2.1.1,y6.1.2.2.2.2.2.2.1.2,y6.1.2.2.2.2.2.2.2.1.1,y6.1.2.2.2.2.2.2.2.1.2,y6.1.2.2.2.2.2.2.2.2.1.1,y6.1.2.2.2.2.2.2.2.2.1.2,y6.1.2.2.2.2.2.2.2.2.2.1,y6.1.2.2.2.2.2.2.2.2.2.2,y6.2.1,y6.2.2.1,y6.2.2.2,y6.1.1,y6.1.2.1,y6.1.2.2.1,y6.1.2.2.2.1.1,y6.1.2.2.2.1.2,y6.1.2.2.2.2.1.1,y6.1.2.2.2.2.1.2,y6.1.2.2.2.2.2.1,y6.1.2.2.2.2.2.2.1.1,y6.1.2.2.2.2.2.2.1.2,y6.1.2.2.2.2.2.2.2.1.1,y6.1.2.2.2.2.2.2.2.1.2,y6.1.2.2.2.2.2.2.2.2.1.1,y6.1.2.2.2.2.2.2.2.2.1.2,y6.1.2.2.2.2.2.2.2.2.2.1,y6.1.2.2.2.2.2.2.2.2.2.2,()))
       else
        some (.inr (a0,y1.2.2.2.1,y1.2.2.2.1==4,y1.1,y1.2.1,y1.2.2.1,y1.2.2.2.1,y1.2.2.2.2.1,y1.2.2.2.2.2.1,y1.2.2.2.2.2.2.1.1,y1.2.2.2.2.2.2.1.2,y1.2.2.2.2.2.2.2.1,y1.2.2.2.2.2.2.2.2.1.1,y1.2.2.2.2.2.2.2.2.1.2,y1.2.2.2.2.2.2.2.2.2.1,y1.2.2.2.2.2.2.2.2.2.2,y6.1.1,y6.1.2.1,y6.1.2.2.1,y6.1.2.2.2.1.1,y6.1.2.2.2.1.2,y6.1.2.2.2.2.1.1,y6.1.2.2.2.2.1.2,y6.1.2.2.2.2.2.1,y6.1.2.2.2.2.2.2.1.1,y6.1.2.2.2.2.2.2.1.2,y6.1.2.2.2.2.2.2.2.1.1,y6.1.2.2.2.2.2.2.2.1.2,y6.1.2.2.2.2.2.2.2.2.1.1,y6.1.2.2.2.2.2.2.2.2.1.2,y6.1.2.2.2.2.2.2.2.2.2.1,y6.1.2.2.2.2.2.2.2.2.2.2,y6.2.1,y6.2.2.1,y6.2.2.2,y6.1.1,y6.1.2.1,y6.1.2.2.1,y6.1.2.2.2.1.1,y6.1.2.2.2.1.2,y6.1.2.2.2.2.1.1,y6.1.2.2.2.2.1.2,y6.1.2.2.2.2.2.1,y6.1.2.2.2.2.2.2.1.1,y6.1.2.2.2.2.2.2.1.2,y6.1.2.2.2.2.2.2.2.1.1,y6.1.2.2.2.2.2.2.2.1.2,y6.1.2.2.2.2.2.2.2.2.1.1,y6.1.2.2.2.2.2.2.2.2.1.2,y6.1.2.2.2.2.2.2.2.2.2.1,y6.1.2.2.2.2.2.2.2.2.2.2,()))) fun (A,B,C,D,E,F,G,H,I,J,K,L,M,N,O,P,Q,R,S,T,U,V,W,X,Y,Z,A0,B0,C0,D0,E0,F0,G0,H0,I0,J0,K0,L0,M0,N0,O0,P0,Q0,R0,S0,T0,U0,V0,W0,X0,Y0,_)=>
     bif C then
      bif decide (G0≥0) then
       some (11,())
      else
       some (0,())
     else
      aI (γ:=(dO×Int×Bool×Int×Int×Int×Int×Int×Bys×Int×Int×Bys×Int×Int×Int×Int×Int×Bys×Bys×Int×Int×Int×Int×Int×Int×Int×Int×Int×Int×Int×Int×Int×Int×Int×(List aC)×Int×Bys×Bys×Int×Int×Int×Int×Int×Int×Int×Int×Int×Int×Int×Int×Int×Unit)) (
       bif B==5 then
        some (.inr (A,B,B==5,D,E,F,G,H,I,J,K,L,M,N,O,P,Q,R,S,T,U,V,W,X,Y,Z,A0,B0,C0,D0,E0,F0,G0,H0,I0,J0,K0,L0,M0,N0,O0,P0,Q0,R0,S0,T0,U0,V0,W0,X0,Y0,()))
       else
        some (.inr (A,B,B==6,D,E,F,G,H,I,J,K,L,M,N,O,P,Q,R,S,T,U,V,W,X,Y,Z,A0,B0,C0,D0,E0,F0,G0,H0,I0,J0,K0,L0,M0,N0,O0,P0,Q0,R0,S0,T0,U0,V0,W0,X0,Y0,()))) fun (Z0,A1,B1,_,_,_,C1,_,_,D1,E1,_,_,_,_,F1,_,_,_,_,_,_,_,_,_,_,_,_,_,_,_,_,G1,H1,_,I1,J1,K1,L1,M1,N1,O1,P1,Q1,R1,S1,T1,U1,V1,W1,X1,_)=>
      bif B1 then
       bif decide (G1<0) then
        some (5,())
       else
        (idx Z0.2.1 G1).bind fun y9=>
        bif y9.2.2.1 != F1 then
         some (5,())
        else
         (
          bif C1==5 then
           Option.bind (idx Z0.2.1 G1) fun y10=>
           bif y10.2.2.2.1==2 then
            Option.bind (idx Z0.2.1 G1) fun y11=>
            Option.bind (zR (I1,J1,K1,(L1,M1),(N1,O1),P1,(Q1,R1),(S1,T1),(U1,V1),W1,X1)) fun r12=>
            Option.bind (vR y11.2.2.2.2.2.2.1 r12.1) fun r13=>
            some (decide (r13.1<0),())
           else
            some (false,())
          else
           some (false,())).bind fun v14=>
         bif v14.1 then
          some (12,())
         else
          some (0,())
      else
       bif A1==7 then
        bif decide (G1≥0) then
         some (11,())
        else
         bif W1==0 then
          some (11,())
         else
          (vR (D1,E1) (W1,X1)).bind fun r15=>
          bif decide (r15.1>0) then
           some (12,())
          else
           some (0,())
       else
        bif A1==8 then
         bif decide (G1≥0) then
          some (11,())
         else
          bif decide (H1<0) then
           some (5,())
          else
           (idx Z0.2.1 H1).bind fun y16=>
           bif y16.2.2.1 != F1 then
            some (5,())
           else
            some (0,())
        else
         bif A1==9 then
          (zR (I1,J1,K1,(L1,M1),(N1,O1),P1,(Q1,R1),(S1,T1),(U1,V1),W1,X1)).bind fun r17=>
          (qG r17.1).bind fun r18=>
          (qG (D1,E1)).bind fun r19=>
          (AZ Z0 (I1,J1,K1,(L1,M1),(N1,O1),P1,(Q1,R1),(S1,T1),(U1,V1),W1,X1)).bind fun r20=>
          bif decide ((w64 (r18.1+r19.1))>r20.1) then
           some (12,())
          else
           (qG (Q1,R1)).bind fun r21=>
           (qG (D1,E1)).bind fun r22=>
           bif decide ((w64 (r21.1+r22.1))>1000000000000000) then
            some (16,())
           else
            some (0,())
         else
          bif A1==10 then
           (mA (S1,T1) (D1,E1)).bind fun r23=>
           (vR r23.1 (Q1,R1)).bind fun r24=>
           bif decide (r24.1>0) then
            some (12,())
           else
            some (0,())
          else
           bif A1==11 then
            (mA (U1,V1) (D1,E1)).bind fun r25=>
            (vR r25.1 (S1,T1)).bind fun r26=>
            bif decide (r26.1>0) then
             some (12,())
            else
             some (0,())
           else
            some (0,())
def kL {β:Type} (a0:(List aa)) (a1:(List ak)) (a2:Nat) (k:(List ak)→Option β):Option β:=
 (a1[a2]?).bind fun y1=>
 (idx a0 y1.2.1).bind fun y2=>
 bif y2.2.2.2.1==1 then
  bif y2.2.2.2.1==1 then
   (gU y2.2.2.2.2.2.2.1).bind fun r3=>
   (a1[a2]?).bind fun y4=>
   ((List.set a1 a2 ((y4.1.1,y4.1.2.1,y4.1.2.2.1,r3.1,y4.1.2.2.2.2),y4.2))[a2]?).bind fun y5=>
   k (List.set (List.set a1 a2 ((y4.1.1,y4.1.2.1,y4.1.2.2.1,r3.1,y4.1.2.2.2.2),y4.2)) a2 (y5.1,(-1),y5.2.2))
  else
   bif y2.2.2.2.1==3 then
    (a1[a2]?).bind fun y6=>
    ((List.set a1 a2 ((y6.1.1,y6.1.2.1,y6.1.2.2.1,y6.1.2.2.2.1,y6.1.2.2.2.2.1,y2.2.2.2.2.2.2.2.2.2.1,y6.1.2.2.2.2.2.2),y6.2))[a2]?).bind fun y7=>
    k (List.set (List.set a1 a2 ((y6.1.1,y6.1.2.1,y6.1.2.2.1,y6.1.2.2.2.1,y6.1.2.2.2.2.1,y2.2.2.2.2.2.2.2.2.2.1,y6.1.2.2.2.2.2.2),y6.2)) a2 (y7.1,(-1),y7.2.2))
   else
    bif y2.2.2.2.1==4 then
     (gU y2.2.2.2.2.2.2.2.2.1).bind fun r8=>
     (a1[a2]?).bind fun y9=>
     ((List.set a1 a2 ((y9.1.1,y9.1.2.1,y9.1.2.2.1,y9.1.2.2.2.1,r8.1,y9.1.2.2.2.2.2),y9.2))[a2]?).bind fun y10=>
     k (List.set (List.set a1 a2 ((y9.1.1,y9.1.2.1,y9.1.2.2.1,y9.1.2.2.2.1,r8.1,y9.1.2.2.2.2.2),y9.2)) a2 (y10.1,(-1),y10.2.2))
    else
     (a1[a2]?).bind fun y11=>
     k (List.set a1 a2 (y11.1,(-1),y11.2.2))
 else
  bif y2.2.2.2.1==2 then
   (gU y2.2.2.2.2.2.2.1).bind fun r12=>
   (a1[a2]?).bind fun y13=>
   ((List.set a1 a2 ((y13.1.1,y13.1.2.1,y13.1.2.2.1,r12.1,y13.1.2.2.2.2),y13.2))[a2]?).bind fun y14=>
   k (List.set (List.set a1 a2 ((y13.1.1,y13.1.2.1,y13.1.2.2.1,r12.1,y13.1.2.2.2.2),y13.2)) a2 (y14.1,(-1),y14.2.2))
  else
   bif y2.2.2.2.1==3 then
    (a1[a2]?).bind fun y15=>
    ((List.set a1 a2 ((y15.1.1,y15.1.2.1,y15.1.2.2.1,y15.1.2.2.2.1,y15.1.2.2.2.2.1,y2.2.2.2.2.2.2.2.2.2.1,y15.1.2.2.2.2.2.2),y15.2))[a2]?).bind fun y16=>
    k (List.set (List.set a1 a2 ((y15.1.1,y15.1.2.1,y15.1.2.2.1,y15.1.2.2.2.1,y15.1.2.2.2.2.1,y2.2.2.2.2.2.2.2.2.2.1,y15.1.2.2.2.2.2.2),y15.2)) a2 (y16.1,(-1),y16.2.2))
   else
    bif y2.2.2.2.1==4 then
     (gU y2.2.2.2.2.2.2.2.2.1).bind fun r17=>
     (a1[a2]?).bind fun y18=>
     ((List.set a1 a2 ((y18.1.1,y18.1.2.1,y18.1.2.2.1,y18.1.2.2.2.1,r17.1,y18.1.2.2.2.2.2),y18.2))[a2]?).bind fun y19=>
     k (List.set (List.set a1 a2 ((y18.1.1,y18.1.2.1,y18.1.2.2.1,y18.1.2.2.2.1,r17.1,y18.1.2.2.2.2.2),y18.2)) a2 (y19.1,(-1),y19.2.2))
    else
     (a1[a2]?).bind fun y20=>
     k (List.set a1 a2 (y20.1,(-1),y20.2.2))
def iA (a0:(List aa)) (a1:(List ak)) (a2:Nat):Option (List ak):=kL a0 a1 a2 some
theorem ad6 {α β:Type} (b:Bool) (x y:Option α) (k:α→Option β):(bif b then x else y).bind k=bif b then x.bind k else y.bind k:=by cases b<;>rfl
theorem Jz {β:Type} (l:List aa) (ql:List ak) (i:Nat) (k:List ak→Option β):kL l ql i k=(iA l ql i).bind k:=by
 unfold iA kL
 simp only[Option.bind_assoc,ad6,ajq]
def iQ (a0:List aC):Option ((List aC)×Unit):=
 bif List.isEmpty a0 then
  both (
   some ([],())) (
   chk (decide ((0+(a0.length))*152≤140737488355328)&&decide (0+(a0.length)≤maxLen)) <|
   some (a0,()))
 else
  chk (decide ((0+(a0.length))*152≤140737488355328)&&decide (0+(a0.length)≤maxLen)) <|
  some (a0,())
abbrev mU:Type:=Int×Int×Int×Int×Int×Int×Int×Bys×Int×Int×Bys×Int×Int×Int×Int×Bys×Bys×Bys×Int×Int×(List aL)×(List aa)×(List ak)×(List ah)×Unit
abbrev qX:Type:=((((aj×(List aa)×(List ak)×(List ah)×Unit)×Unit) ⊕ (Int×Int×Int×Int×Int×Int×Int×Bys×Int×Int×Bys×Int×Int×Int×Int×Bys×Bys×Bys×Int×Int×(List aL)×(List aa)×(List ak)×(List ah)×Unit)) ⊕ (Int×Int×Int×Int×Int×Int×Int×Bys×Int×Int×Bys×Int×Int×Int×Int×Bys×Bys×Bys×Int×Int×(List aL)×(List aa)×(List ak)×(List ah)×Unit))
def qW (x1:mU) (again:mU→Option qX):Option qX:=
 match x1 with
 | (A,B,C,D,E,F,G,H,I,J,K,L,M,N,O,P,Q,R,S,T,U,V,W,X,_)=>
 (
  bif decide (B<((W.length:Int))) then
   chk (decide (0≤B)&&decide (B<(W.length:Int))) <|
   Option.bind (W[B.toNat]?) fun y2=>
   some (decide (y2.1.1<G),())
  else
   some (false,())).bind fun v3=>
 bif v3.1 then
  again (A,w64 (B+1),C,D,E,F,G,H,I,J,K,L,M,N,O,P,Q,R,S,T,U,V,W,X,())
 else
  some (.inr (A,B,C,D,E,F,G,H,I,J,K,L,M,N,O,P,Q,R,S,T,U,V,W,X,()))
def kT (a0:aj×(List aa)×(List ak)×(List ah)×Unit) (a1:Int):Option ((aj×(List aa)×(List ak)×(List ah)×Unit)×Unit):=
 (idx a0.2.1 a1).bind fun y1=>
 (rU (a0.1,a0.2.1,a0.2.2.1,a0.2.2.2.1) y1.2.2.2.2.1).bind fun r2=>
 aI (γ:=(Int×Int×Int×Int×Int×Int×Int×Bys×Int×Int×Bys×Int×Int×Int×Int×Bys×Bys×Bys×Int×Int×(List aL)×(List aa)×(List ak)×(List ah)×Unit)) (
  bif decide (r2.1<0) then
   aI (
    iter (X:=mU) (β:=qX) (a1.natAbs+(Int.natAbs (0:Int)+(y1.1.natAbs+(y1.2.1.natAbs+(y1.2.2.1.natAbs+(y1.2.2.2.1.natAbs+(y1.2.2.2.2.1.natAbs+(y1.2.2.2.2.2.1.length+(y1.2.2.2.2.2.2.1.1.natAbs+(y1.2.2.2.2.2.2.1.2.natAbs+(y1.2.2.2.2.2.2.2.1.length+(y1.2.2.2.2.2.2.2.2.1.1.natAbs+(y1.2.2.2.2.2.2.2.2.1.2.natAbs+(y1.2.2.2.2.2.2.2.2.2.1.natAbs+(y1.2.2.2.2.2.2.2.2.2.2.natAbs+(a0.1.1.length+(a0.1.2.1.length+(a0.1.2.2.1.length+(a0.1.2.2.2.1.natAbs+(a0.1.2.2.2.2.1.natAbs+(a0.1.2.2.2.2.2.length+(a0.2.1.length+(a0.2.2.1.length+(a0.2.2.2.1.length+2)))))))))))))))))))))))) (a1,0,y1.1,y1.2.1,y1.2.2.1,y1.2.2.2.1,y1.2.2.2.2.1,y1.2.2.2.2.2.1,y1.2.2.2.2.2.2.1.1,y1.2.2.2.2.2.2.1.2,y1.2.2.2.2.2.2.2.1,y1.2.2.2.2.2.2.2.2.1.1,y1.2.2.2.2.2.2.2.2.1.2,y1.2.2.2.2.2.2.2.2.2.1,y1.2.2.2.2.2.2.2.2.2.2,a0.1.1,a0.1.2.1,a0.1.2.2.1,a0.1.2.2.2.1,a0.1.2.2.2.2.1,a0.1.2.2.2.2.2,a0.2.1,a0.2.2.1,a0.2.2.2.1,()) (qW)) fun (Z,A0,B0,C0,D0,E0,F0,G0,H0,I0,J0,K0,L0,M0,N0,O0,P0,Q0,R0,S0,T0,U0,V0,W0,_)=>
   (gU (K0,L0)).bind fun r7=>
   (iB V0 A0 [((F0,G0,J0,(0,0),r7.1,M0,(0,0),(0,0),(0,0),0,0),Z,(-1),[])]).bind fun r8=>
   some (.inr (Z,A0,B0,C0,D0,E0,F0,G0,H0,I0,J0,K0,L0,M0,N0,O0,P0,Q0,R0,S0,T0,U0,r8.1,W0,()))
  else
   some (.inr (a1,r2.1,y1.1,y1.2.1,y1.2.2.1,y1.2.2.2.1,y1.2.2.2.2.1,y1.2.2.2.2.2.1,y1.2.2.2.2.2.2.1.1,y1.2.2.2.2.2.2.1.2,y1.2.2.2.2.2.2.2.1,y1.2.2.2.2.2.2.2.2.1.1,y1.2.2.2.2.2.2.2.2.1.2,y1.2.2.2.2.2.2.2.2.2.1,y1.2.2.2.2.2.2.2.2.2.2,a0.1.1,a0.1.2.1,a0.1.2.2.1,a0.1.2.2.2.1,a0.1.2.2.2.2.1,a0.1.2.2.2.2.2,a0.2.1,a0.2.2.1,a0.2.2.2.1,()))) fun (A,B,C,D,E,F,G,H,I,J,K,L,M,N,O,P,Q,R,S,T,U,V,W,Y,_)=>
 chk (decide (0≤B)&&decide (B<(W.length:Int))) <|
 aI (γ:=(Int×(Nat)×Int×Int×Int×Int×Int×Bys×Int×Int×Bys×Int×Int×Int×Int×Bys×Bys×Bys×Int×Int×(List aL)×(List aa)×(List ak)×(List ah)×Unit)) (
  bif D==2 then
   (W[B.toNat]?).bind fun y10=>
   some (.inr (A,B.toNat,C,D,E,F,G,H,I,J,K,L,M,N,O,P,Q,R,S,T,U,V,List.set W B.toNat (y10.1,y10.2.1,(-1),y10.2.2.2),Y,()))
  else
   some (.inr (A,B.toNat,C,D,E,F,G,H,I,J,K,L,M,N,O,P,Q,R,S,T,U,V,W,Y,()))) fun (X0,Y0,Z0,A1,B1,C1,D1,E1,F1,G1,H1,I1,J1,K1,L1,M1,N1,O1,P1,Q1,R1,S1,T1,U1,_)=>
 aI (γ:=(Int×(Nat)×Int×Bool×Int×Int×Int×Int×Int×Bys×Int×Int×Bys×Int×Int×Int×Int×Bys×Bys×Bys×Int×Int×(List aL)×(List aa)×(List ak)×(List ah)×Unit)) (
  bif C1==2 then
   some (.inr (X0,Y0,C1,C1==2,Z0,A1,B1,C1,D1,E1,F1,G1,H1,I1,J1,K1,L1,M1,N1,O1,P1,Q1,R1,S1,T1,U1,()))
  else
   bif C1==3 then
    some (.inr (X0,Y0,C1,C1==3,Z0,A1,B1,C1,D1,E1,F1,G1,H1,I1,J1,K1,L1,M1,N1,O1,P1,Q1,R1,S1,T1,U1,()))
   else
    some (.inr (X0,Y0,C1,C1==4,Z0,A1,B1,C1,D1,E1,F1,G1,H1,I1,J1,K1,L1,M1,N1,O1,P1,Q1,R1,S1,T1,U1,()))) fun (V1,W1,X1,Y1,_,_,_,_,_,_,Z1,A2,_,_,_,_,_,B2,C2,D2,E2,F2,G2,H2,I2,J2,_)=>
 aI (γ:=(Int×(Nat)×Bys×Bys×Bys×Int×Int×(List aL)×(List aa)×(List ak)×(List ah)×Unit)) (
  bif Y1 then
   (I2[W1]?).bind fun y13=>
   some (.inr (V1,W1,B2,C2,D2,E2,F2,G2,H2,List.set I2 W1 (y13.1,V1,y13.2.2),J2,()))
  else
   bif X1==5 then
    (iA H2 I2 W1).bind fun z14=>
    some (.inr (V1,W1,B2,C2,D2,E2,F2,G2,H2,z14,J2,()))
   else
    bif X1==6 then
     (I2[W1]?).bind fun y15=>
     some (.inr (V1,W1,B2,C2,D2,E2,F2,G2,H2,List.set I2 W1 (y15.1,(-1),y15.2.2),J2,()))
    else
     bif X1==7 then
      (I2[W1]?).bind fun y16=>
      some (.inr (V1,W1,B2,C2,D2,E2,F2,G2,H2,List.set I2 W1 (y16.1,y16.2.1,V1,y16.2.2.2),J2,()))
     else
      bif X1==8 then
       (I2[W1]?).bind fun y17=>
       (zR y17.1).bind fun r18=>
       (I2[W1]?).bind fun y19=>
       (idx H2 y19.2.2.1).bind fun y20=>
       (mA r18.1 y20.2.2.2.2.2.2.1).bind fun r21=>
       (I2[W1]?).bind fun y22=>
       (idx H2 y22.2.2.1).bind fun y23=>
       (I2[W1]?).bind fun y24=>
       ((List.set I2 W1 ((y24.1.1,y24.1.2.1,y24.1.2.2.1,r21.1,y24.1.2.2.2.2),y24.2))[W1]?).bind fun y25=>
       ((List.set (List.set I2 W1 ((y24.1.1,y24.1.2.1,y24.1.2.2.1,r21.1,y24.1.2.2.2.2),y24.2)) W1 ((y25.1.1,y25.1.2.1,y25.1.2.2.1,y25.1.2.2.2.1,y25.1.2.2.2.2.1,y23.2.2.2.2.2.2.2.2.2.1,y25.1.2.2.2.2.2.2),y25.2))[W1]?).bind fun y26=>
       some (.inr (V1,W1,B2,C2,D2,E2,F2,G2,H2,List.set (List.set (List.set I2 W1 ((y24.1.1,y24.1.2.1,y24.1.2.2.1,r21.1,y24.1.2.2.2.2),y24.2)) W1 ((y25.1.1,y25.1.2.1,y25.1.2.2.1,y25.1.2.2.2.1,y25.1.2.2.2.2.1,y23.2.2.2.2.2.2.2.2.2.1,y25.1.2.2.2.2.2.2),y25.2)) W1 (y26.1,y26.2.1,(-1),y26.2.2.2),J2,()))
      else
       bif X1==9 then
        (I2[W1]?).bind fun y27=>
        (mA y27.1.2.2.2.2.2.2.1 (Z1,A2)).bind fun r28=>
        (I2[W1]?).bind fun y29=>
        some (.inr (V1,W1,B2,C2,D2,E2,F2,G2,H2,List.set I2 W1 ((y29.1.1,y29.1.2.1,y29.1.2.2.1,y29.1.2.2.2.1,y29.1.2.2.2.2.1,y29.1.2.2.2.2.2.1,r28.1,y29.1.2.2.2.2.2.2.2),y29.2),J2,()))
       else
        bif X1==10 then
         (I2[W1]?).bind fun y30=>
         (mA y30.1.2.2.2.2.2.2.2.1 (Z1,A2)).bind fun r31=>
         (I2[W1]?).bind fun y32=>
         some (.inr (V1,W1,B2,C2,D2,E2,F2,G2,H2,List.set I2 W1 ((y32.1.1,y32.1.2.1,y32.1.2.2.1,y32.1.2.2.2.1,y32.1.2.2.2.2.1,y32.1.2.2.2.2.2.1,y32.1.2.2.2.2.2.2.1,r31.1,y32.1.2.2.2.2.2.2.2.2),y32.2),J2,()))
        else
         bif X1==11 then
          (I2[W1]?).bind fun y33=>
          (mA y33.1.2.2.2.2.2.2.2.2.1 (Z1,A2)).bind fun r34=>
          (I2[W1]?).bind fun y35=>
          some (.inr (V1,W1,B2,C2,D2,E2,F2,G2,H2,List.set I2 W1 ((y35.1.1,y35.1.2.1,y35.1.2.2.1,y35.1.2.2.2.1,y35.1.2.2.2.2.1,y35.1.2.2.2.2.2.1,y35.1.2.2.2.2.2.2.1,y35.1.2.2.2.2.2.2.2.1,r34.1,y35.1.2.2.2.2.2.2.2.2.2),y35.2),J2,()))
         else
          some (.inr (V1,W1,B2,C2,D2,E2,F2,G2,H2,I2,J2,()))) fun (K2,L2,M2,N2,O2,P2,Q2,R2,S2,T2,U2,_)=>
 (T2[L2]?).bind fun y37=>
 (qH y37.1).bind fun r38=>
 (T2[L2]?).bind fun y39=>
 ((List.set T2 L2 (r38.1,y39.2))[L2]?).bind fun y40=>
 (iQ y40.2.2.2).bind fun r41=>
 ((List.set T2 L2 (r38.1,y39.2))[L2]?).bind fun y42=>
 chk (decide (((r41.1.length)+1)*152≤140737488355328)&&decide ((r41.1.length)+1≤maxLen)) <|
 ((List.set T2 L2 (r38.1,y39.2))[L2]?).bind fun y43=>
 some (((M2,N2,O2,P2,Q2,R2),S2,List.set (List.set T2 L2 (r38.1,y39.2)) L2 (y43.1,y43.2.1,y43.2.2.1,r41.1++[(K2,y42.1)]),U2,()),())
abbrev D6:Type:=(List aa)×Int×(List aL)×Int×Int×Bys×Bys×Bys×Int×Int×(List aL)×(List aa)×(List ak)×(List ah)×Unit
abbrev IB:Type:=(((aj×(List aa)×(List ak)×(List ah)×Unit)×Unit) ⊕ ((List aa)×Int×Bys×Bys×Bys×Int×Int×(List aL)×(List aa)×(List ak)×(List ah)×Unit))
def Iz (x1:D6) (again:D6→Option IB):Option IB:=
 match x1 with
 | (A,B,C,D,E,F,G,H,I,J,K,L,M,N,_)=>
 bif decide (E<D) then
  (idx C E).bind fun y2=>
  (gU y2.2.2.1).bind fun r3=>
  (gU y2.2.2.2.2.1).bind fun r4=>
  (qH (y2.1,y2.2.1,y2.2.2.2.1,r3.1,r4.1,y2.2.2.2.2.2,(0,0),(0,0),(0,0),0,0)).bind fun r5=>
  chk (decide (((M.length)+1)*184≤140737488355328)&&decide ((M.length)+1≤maxLen)) <|
  again (A,B,C,D,w64 (E+1),F,G,H,I,J,K,L,M++[(r5.1,(-1),(-1),[])],N,())
 else
  some (.inr (A,B,F,G,H,I,J,K,L,M,N,()))
abbrev ID:Type:=Int×(List aa)×Int×Int×Bys×Bys×Bys×Int×Int×(List aL)×(List aa)×(List ak)×(List ah)×Unit
abbrev IC:Type:=(((aj×(List aa)×(List ak)×(List ah)×Unit)×Unit) ⊕ (Bys×Bys×Bys×Int×Int×(List aL)×(List aa)×(List ak)×(List ah)×Unit))
def DZ (x1:ID) (again:ID→Option IC):Option IC:=
 match x1 with
 | (A,B,C,D,E,F,G,H,I,J,K,L,M,_)=>
 bif decide (D<C) then
  (idx B D).bind fun y2=>
  bif decide (y2.1>A) then
   again (A,B,C,w64 (D+1),E,F,G,H,I,J,K,L,M,())
  else
   (gC ((E,F,G,H,I,J),K,L,M) D).bind fun r3=>
   bif r3.1 != 0 then
    chk (decide (((M.length)+1)*16≤140737488355328)&&decide ((M.length)+1≤maxLen)) <|
    again (A,B,C,w64 (D+1),E,F,G,H,I,J,K,L,M++[(D,r3.1)],())
   else
    (kT ((E,F,G,H,I,J),K,L,M,()) D).bind fun r4=>
    again (A,B,C,w64 (D+1),r4.1.1.1,r4.1.1.2.1,r4.1.1.2.2.1,r4.1.1.2.2.2.1,r4.1.1.2.2.2.2.1,r4.1.1.2.2.2.2.2,r4.1.2.1,r4.1.2.2.1,r4.1.2.2.2.1,())
 else
  some (.inr (E,F,G,H,I,J,K,L,M,()))
def G8 (a0:aj) (a1:List aa) (a2:Int):Option ((aj×(List aa)×(List ak)×(List ah)×Unit)×Unit):=
 aI (
  iter (X:=D6) (β:=IB) (a1.length+(a2.natAbs+(a0.2.2.2.2.2.length+(Int.natAbs ((a0.2.2.2.2.2.length:Int))+(Int.natAbs (0:Int)+(a0.1.length+(a0.2.1.length+(a0.2.2.1.length+(a0.2.2.2.1.natAbs+(a0.2.2.2.2.1.natAbs+(a0.2.2.2.2.2.length+(a1.length+(List.length ([]:List ak)+(List.length ([]:List ah)+2)))))))))))))) (a1,a2,a0.2.2.2.2.2,(a0.2.2.2.2.2.length:Int),0,a0.1,a0.2.1,a0.2.2.1,a0.2.2.2.1,a0.2.2.2.2.1,a0.2.2.2.2.2,a1,[],[],()) (Iz)) fun (A,B,C,D,E,F,G,H,I,J,K,_)=>
 aI (
  iter (X:=ID) (β:=IC) (B.natAbs+(A.length+(Int.natAbs ((A.length:Int))+(Int.natAbs (0:Int)+(C.length+(D.length+(E.length+(F.natAbs+(G.natAbs+(H.length+(I.length+(J.length+(K.length+2))))))))))))) (B,A,(A.length:Int),0,C,D,E,F,G,H,I,J,K,()) (DZ)) fun (L,M,N,O,P,Q,R,S,T,_)=>
 some (((L,M,N,O,P,Q),R,S,T,()),())
end Go.Md
namespace Go.Md
open Go.Dn
abbrev o9 (l:List bn) (i:Int) (v:List bn):=TQ 144 l i v
def vQ (a0:aj) (a1:List aa) (a2:Int):Option (Int×Unit):=
 (Uu a0 a1).bind fun r1=>
 bif r1.1 != 0 then
  some (r1.1,())
 else
  (zk a2).bind fun r2=>
  bif !r2.1 then
   some (1,())
  else
   some (0,())
abbrev mW:Type:=(List bn)×(List ak)×Int×Int×Unit
abbrev q8:Type:=(((List bn)×Unit) ⊕ ((List bn)×Unit))
def q7 (x1:mW) (again:mW→Option q8):Option q8:=
 match x1 with
 | (A,B,C,D,_)=>
 bif decide (D<C) then
  (idx B D).bind fun y2=>
  chk (decide (((A.length)+1)*144≤140737488355328)&&decide ((A.length)+1≤maxLen)) <|
  again (A++[y2.1],B,C,w64 (D+1),())
 else
  some (.inr (A,()))
def rV (a0:dO):Option ((List bn)×Unit):=
 aI (
  iter (X:=mW) (β:=q8) (List.length ([]:List bn)+(a0.2.2.1.length+(Int.natAbs ((a0.2.2.1.length:Int))+(Int.natAbs (0:Int)+2)))) ([],a0.2.2.1,(a0.2.2.1.length:Int),0,()) (q7)) fun v3=>
 some (v3.1,())
def dZ (a0:Option Nat) (a1:Option Nat) (a2:List aq):Option (Int×Unit):=
 (a0).bind fun h1=>
 (a2[h1]?).bind fun y2=>
 (a1).bind fun h3=>
 (a2[h3]?).bind fun y4=>
 some (w64 (y2.2.2.2.2.2.2.2.2.1 - y4.2.2.2.2.2.2.2.2.1),())
abbrev dA:Type:=Int×Int×Unit×Int×Int×(List (Option Nat))×(List aq)×Unit
abbrev dx:Type:=((((List (Option Nat))×Unit) ⊕ ((List (Option Nat))×(List aq)×Unit)) ⊕ (Int×Int×Unit×Int×(List (Option Nat))×(List aq)×Unit))
def dn (x1:dA) (again:dA→Option dx):Option dx:=
 match x1 with
 | (A,B,C,D,E,F,G,_)=>
 bif decide (E>A) then
  chk (decide (0≤E)&&decide (E<(F.length:Int))) <|
  (F[E.toNat]?).bind fun y2=>
  chk (decide (0≤(w64 (E - 1)))&&decide ((w64 (E - 1))<(F.length:Int))) <|
  (F[(w64 (E - 1)).toNat]?).bind fun y3=>
  (dZ y2 y3 G).bind fun r4=>
  bif decide (r4.1<0) then
   chk (decide (0≤(w64 (E - 1)))&&decide ((w64 (E - 1))<(F.length:Int))) <|
   (F[(w64 (E - 1)).toNat]?).bind fun y5=>
   chk (decide (0≤E)&&decide (E<(F.length:Int))) <|
   (F[E.toNat]?).bind fun y6=>
   chk (decide (0≤E)&&decide (E<(F.length:Int))) <|
   (F[E.toNat]?).bind fun _=>
   chk (decide (0≤(w64 (E - 1)))&&decide ((w64 (E - 1))<(List.length (List.set F E.toNat y5):Int))) <|
   ((List.set F E.toNat y5)[(w64 (E - 1)).toNat]?).bind fun _=>
   again (A,B,C,D,w64 (E - 1),List.set (List.set F E.toNat y5) (w64 (E - 1)).toNat y6,G,())
  else
   some (.inr (A,B,C,D,F,G,()))
 else
  some (.inr (A,B,C,D,F,G,()))
abbrev dz:Type:=Int×Int×Unit×Int×(List (Option Nat))×(List aq)×Unit
abbrev dw:Type:=(((List (Option Nat))×Unit) ⊕ ((List (Option Nat))×(List aq)×Unit))
def cA (x1:dz) (again:dz→Option dw):Option dw:=
 match x1 with
 | (A,B,C,D,E,F,_)=>
 bif decide (D<B) then
  aI (
   iter (X:=dA) (β:=dx) (A.natAbs+(B.natAbs+(D.natAbs+(D.natAbs+(E.length+2))))) (A,B,C,D,D,E,F,()) (dn)) fun (G,H,I,J,K,L,_)=>
  again (G,H,I,w64 (J+1),K,L,())
 else
  some (.inr (E,F,()))
def cJ (a0:List (Option Nat)) (a1:Int) (a2:Int) (a3:Unit) (a4:List aq):Option ((List (Option Nat))×Unit):=
 aI (
  iter (X:=dz) (β:=dw) (a1.natAbs+(a2.natAbs+(Int.natAbs (w64 (a1+1))+(a0.length+2)))) (a1,a2,a3,w64 (a1+1),a0,a4,()) (cA)) fun v11=>
 some (v11.1,())
abbrev er:Type:=Int×Int×Int×Int×(List (Option Nat))×(List aq)×Unit
abbrev ep:Type:=(((List (Option Nat))×Unit) ⊕ ((List (Option Nat))×(List aq)×Unit))
def eo (x1:er) (again:er→Option ep):Option ep:=
 match x1 with
 | (A,B,C,D,E,F,_)=>
 bif decide (D<C) then
  chk (decide (0≤(w64 (B+D)))&&decide ((w64 (B+D))<(E.length:Int))) <|
  (E[(w64 (B+D)).toNat]?).bind fun y2=>
  chk (decide (0≤(w64 (A+D)))&&decide ((w64 (A+D))<(E.length:Int))) <|
  (E[(w64 (A+D)).toNat]?).bind fun y3=>
  chk (decide (0≤(w64 (A+D)))&&decide ((w64 (A+D))<(E.length:Int))) <|
  (E[(w64 (A+D)).toNat]?).bind fun _=>
  chk (decide (0≤(w64 (B+D)))&&decide ((w64 (B+D))<(List.length (List.set E (w64 (A+D)).toNat y2):Int))) <|
  ((List.set E (w64 (A+D)).toNat y2)[(w64 (B+D)).toNat]?).bind fun _=>
  again (A,B,C,w64 (D+1),List.set (List.set E (w64 (A+D)).toNat y2) (w64 (B+D)).toNat y3,F,())
 else
  some (.inr (E,F,()))
def cF (a0:List (Option Nat)) (a1:Int) (a2:Int) (a3:Int) (_a4:Unit) (a5:List aq):Option ((List (Option Nat))×Unit):=
 aI (
  iter (X:=er) (β:=ep) (a1.natAbs+(a2.natAbs+(a3.natAbs+(Int.natAbs (0:Int)+(a0.length+2))))) (a1,a2,a3,0,a0,a5,()) (eo)) fun v6=>
 some (v6.1,())
abbrev fC:Type:=Int×Unit×Int×Int×(List (Option Nat))×(List aq)×Unit
abbrev fB:Type:=(((List (Option Nat))×Unit) ⊕ (Int×Unit×Int×(List (Option Nat))×(List aq)×Unit))
def fA (x1:fC) (again:fC→Option fB):Option fB:=
 match x1 with
 | (A,B,C,D,E,F,_)=>
 bif C != D then
  bif decide (C>D) then
   (cF E (w64 (A - C)) A D B F).bind fun r2=>
   again (A,B,w64 (C - D),D,r2.1,F,())
  else
   (cF E (w64 (A - C)) (w64 ((w64 (A+D)) - C)) C B F).bind fun r3=>
   again (A,B,C,w64 (D - C),r3.1,F,())
 else
  some (.inr (A,B,C,E,F,()))
def fZ (a0:List (Option Nat)) (a1:Int) (a2:Int) (a3:Int) (a4:Unit) (a5:List aq):Option ((List (Option Nat))×Unit):=
 aI (
  iter (X:=fC) (β:=fB) (a2.natAbs+(Int.natAbs (w64 (a2 - a1))+(Int.natAbs (w64 (a3 - a2))+(a0.length+2)))) (a2,a4,w64 (a2 - a1),w64 (a3 - a2),a0,a5,()) (fA)) fun (A,B,C,D,E,_)=>
 (cF D (w64 (A - C)) A C B E).bind fun r5=>
 some (r5.1,())
abbrev eW:Type:=Int×Unit×Int×Int×(List (Option Nat))×(List aq)×Unit
abbrev eU:Type:=(((List (Option Nat))×Unit) ⊕ (Int×Int×(List (Option Nat))×(List aq)×Unit))
def cT (x1:eW) (again:eW→Option eU):Option eU:=
 match x1 with
 | (A,B,C,D,E,F,_)=>
 bif decide (C<D) then
  let n2:Int:=w64 (Int.fdiv (b9 (w64 (C+D))) (2 ^ 1))
  chk (decide (0≤n2)&&decide (n2<(E.length:Int))) <|
  (E[n2.toNat]?).bind fun y3=>
  chk (decide (0≤A)&&decide (A<(E.length:Int))) <|
  (E[A.toNat]?).bind fun y4=>
  (dZ y3 y4 F).bind fun r5=>
  bif decide (r5.1<0) then
   again (A,B,w64 (n2+1),D,E,F,())
  else
   again (A,B,C,n2,E,F,())
 else
  some (.inr (A,C,E,F,()))
abbrev eX:Type:=Int×Int×(List (Option Nat))×(List aq)×Unit
abbrev eV:Type:=(((List (Option Nat))×Unit) ⊕ ((List (Option Nat))×(List aq)×Unit))
def eS (x1:eX) (again:eX→Option eV):Option eV:=
 match x1 with
 | (A,B,C,D,_)=>
 bif decide (B<(w64 (A - 1))) then
  chk (decide (0≤(w64 (B+1)))&&decide ((w64 (B+1))<(C.length:Int))) <|
  (C[(w64 (B+1)).toNat]?).bind fun y2=>
  chk (decide (0≤B)&&decide (B<(C.length:Int))) <|
  (C[B.toNat]?).bind fun y3=>
  chk (decide (0≤B)&&decide (B<(C.length:Int))) <|
  (C[B.toNat]?).bind fun _=>
  chk (decide (0≤(w64 (B+1)))&&decide ((w64 (B+1))<(List.length (List.set C B.toNat y2):Int))) <|
  ((List.set C B.toNat y2)[(w64 (B+1)).toNat]?).bind fun _=>
  again (A,w64 (B+1),List.set (List.set C B.toNat y2) (w64 (B+1)).toNat y3,D,())
 else
  some (.inr (C,D,()))
abbrev eD:Type:=Int×Unit×Int×Int×(List (Option Nat))×(List aq)×Unit
abbrev ez:Type:=(((List (Option Nat))×Unit) ⊕ (Int×Int×(List (Option Nat))×(List aq)×Unit))
def cO (x1:eD) (again:eD→Option ez):Option ez:=
 match x1 with
 | (A,B,C,D,E,F,_)=>
 bif decide (C<D) then
  let n2:Int:=w64 (Int.fdiv (b9 (w64 (C+D))) (2 ^ 1))
  chk (decide (0≤A)&&decide (A<(E.length:Int))) <|
  (E[A.toNat]?).bind fun y3=>
  chk (decide (0≤n2)&&decide (n2<(E.length:Int))) <|
  (E[n2.toNat]?).bind fun y4=>
  (dZ y3 y4 F).bind fun r5=>
  bif !(decide (r5.1<0)) then
   again (A,B,w64 (n2+1),D,E,F,())
  else
   again (A,B,C,n2,E,F,())
 else
  some (.inr (A,C,E,F,()))
abbrev eE:Type:=Int×Int×(List (Option Nat))×(List aq)×Unit
abbrev eA:Type:=(((List (Option Nat))×Unit) ⊕ ((List (Option Nat))×(List aq)×Unit))
def ew (x1:eE) (again:eE→Option eA):Option eA:=
 match x1 with
 | (A,B,C,D,_)=>
 bif decide (B>A) then
  chk (decide (0≤(w64 (B - 1)))&&decide ((w64 (B - 1))<(C.length:Int))) <|
  (C[(w64 (B - 1)).toNat]?).bind fun y2=>
  chk (decide (0≤B)&&decide (B<(C.length:Int))) <|
  (C[B.toNat]?).bind fun y3=>
  chk (decide (0≤B)&&decide (B<(C.length:Int))) <|
  (C[B.toNat]?).bind fun _=>
  chk (decide (0≤(w64 (B - 1)))&&decide ((w64 (B - 1))<(List.length (List.set C B.toNat y2):Int))) <|
  ((List.set C B.toNat y2)[(w64 (B - 1)).toNat]?).bind fun _=>
  again (A,w64 (B - 1),List.set (List.set C B.toNat y2) (w64 (B - 1)).toNat y3,D,())
 else
  some (.inr (C,D,()))
abbrev eF:Type:=Int×Int×Int×Unit×Int×Int×Int×Int×Int×(List (Option Nat))×(List aq)×Unit
abbrev eC:Type:=(((List (Option Nat))×Unit) ⊕ (Int×Int×Int×Unit×Int×Int×Int×(List (Option Nat))×(List aq)×Unit))
def cP (x1:eF) (again:eF→Option eC):Option eC:=
 match x1 with
 | (A,B,C,D,E,F,G,H,I,J,K,_)=>
 bif decide (G<H) then
  let n2:Int:=w64 (Int.fdiv (b9 (w64 (G+H))) (2 ^ 1))
  chk (decide (0≤(w64 (I - n2)))&&decide ((w64 (I - n2))<(J.length:Int))) <|
  (J[(w64 (I - n2)).toNat]?).bind fun y3=>
  chk (decide (0≤n2)&&decide (n2<(J.length:Int))) <|
  (J[n2.toNat]?).bind fun y4=>
  (dZ y3 y4 K).bind fun r5=>
  bif !(decide (r5.1<0)) then
   again (A,B,C,D,E,F,w64 (n2+1),H,I,J,K,())
  else
   again (A,B,C,D,E,F,G,n2,I,J,K,())
 else
  some (.inr (A,B,C,D,E,F,G,J,K,()))
def bY (self:((List (Option Nat))×Int×Int×Int×Unit×(List aq)×Unit)→Option ((List (Option Nat))×Unit)) (a0:List (Option Nat)) (a1:Int) (a2:Int) (a3:Int) (a4:Unit) (a5:List aq):Option ((List (Option Nat))×Unit):=
 bif (w64 (a2 - a1))==1 then
  aI (
   iter (X:=eW) (β:=eU) (a1.natAbs+(a2.natAbs+(a3.natAbs+(a0.length+2)))) (a1,a4,a2,a3,a0,a5,()) (cT)) fun (A,B,C,D,_)=>
  aI (
   iter (X:=eX) (β:=eV) (B.natAbs+(A.natAbs+(C.length+2))) (B,A,C,D,()) (eS)) fun v12=>
  some (v12.1,())
 else
  bif (w64 (a3 - a2))==1 then
   aI (
    iter (X:=eD) (β:=ez) (a2.natAbs+(a1.natAbs+(a2.natAbs+(a0.length+2)))) (a2,a4,a1,a2,a0,a5,()) (cO)) fun (F,G,H,I,_)=>
   aI (
    iter (X:=eE) (β:=eA) (G.natAbs+(F.natAbs+(H.length+2))) (G,F,H,I,()) (ew)) fun v24=>
   some (v24.1,())
  else
   let n25:Int:=w64 (Int.fdiv (b9 (w64 (a1+a3))) (2 ^ 1))
   aI (γ:=(Int×Int×Int×Unit×Int×Int×Int×Int×(List (Option Nat))×(List aq)×Unit)) (
    bif decide (a2>n25) then
     some (.inr (a1,a2,a3,a4,n25,w64 (n25+a2),w64 ((w64 (n25+a2)) - a3),n25,a0,a5,()))
    else
     some (.inr (a1,a2,a3,a4,n25,w64 (n25+a2),a1,a2,a0,a5,()))) fun (K,L,M,N,O,P,Q,R,S,T,_)=>
   aI (
    iter (X:=eF) (β:=eC) (K.natAbs+(L.natAbs+(M.natAbs+(O.natAbs+(P.natAbs+(Q.natAbs+(R.natAbs+(Int.natAbs (w64 (P - 1))+(S.length+2))))))))) (K,L,M,N,O,P,Q,R,w64 (P - 1),S,T,()) (cP)) fun (U,V,W,Y,Z,A0,B0,C0,D0,_)=>
   bif decide (B0<V) then
    aI (γ:=(Int×Int×Unit×Int×Int×Int×(List (Option Nat))×(List aq)×Unit)) (
     bif decide (V<(w64 (A0 - B0))) then
      (fZ C0 B0 V (w64 (A0 - B0)) Y D0).bind fun r33=>
      some (.inr (U,W,Y,Z,B0,w64 (A0 - B0),r33.1,D0,()))
     else
      some (.inr (U,W,Y,Z,B0,w64 (A0 - B0),C0,D0,()))) fun (E0,F0,G0,H0,I0,J0,K0,L0,_)=>
    bif decide (E0<I0) then
     aI (γ:=(Int×Unit×Int×Int×(List (Option Nat))×(List aq)×Unit)) (
      bif decide (I0<H0) then
       (self (K0,E0,I0,H0,G0,L0,())).bind fun r35=>
       some (.inr (F0,G0,H0,J0,r35.1,L0,()))
      else
       some (.inr (F0,G0,H0,J0,K0,L0,()))) fun (M0,N0,O0,P0,Q0,R0,_)=>
     bif decide (O0<P0) then
      bif decide (P0<M0) then
       (self (Q0,O0,P0,M0,N0,R0,())).bind fun r37=>
       some (r37.1,())
      else
       some (Q0,())
     else
      some (Q0,())
    else
     aI (γ:=(Int×Unit×Int×Int×(List (Option Nat))×(List aq)×Unit)) (
      some (.inr (F0,G0,H0,J0,K0,L0,()))) fun (S0,T0,U0,V0,W0,X0,_)=>
     bif decide (U0<V0) then
      bif decide (V0<S0) then
       (self (W0,U0,V0,S0,T0,X0,())).bind fun r39=>
       some (r39.1,())
      else
       some (W0,())
     else
      some (W0,())
   else
    aI (γ:=(Int×Int×Unit×Int×Int×Int×(List (Option Nat))×(List aq)×Unit)) (
     some (.inr (U,W,Y,Z,B0,w64 (A0 - B0),C0,D0,()))) fun (Y0,Z0,A1,B1,C1,D1,E1,F1,_)=>
    bif decide (Y0<C1) then
     aI (γ:=(Int×Unit×Int×Int×(List (Option Nat))×(List aq)×Unit)) (
      bif decide (C1<B1) then
       (self (E1,Y0,C1,B1,A1,F1,())).bind fun r41=>
       some (.inr (Z0,A1,B1,D1,r41.1,F1,()))
      else
       some (.inr (Z0,A1,B1,D1,E1,F1,()))) fun (G1,H1,I1,J1,K1,L1,_)=>
     bif decide (I1<J1) then
      bif decide (J1<G1) then
       (self (K1,I1,J1,G1,H1,L1,())).bind fun r43=>
       some (r43.1,())
      else
       some (K1,())
     else
      some (K1,())
    else
     aI (γ:=(Int×Unit×Int×Int×(List (Option Nat))×(List aq)×Unit)) (
      some (.inr (Z0,A1,B1,D1,E1,F1,()))) fun (M1,N1,O1,P1,Q1,R1,_)=>
     bif decide (O1<P1) then
      bif decide (P1<M1) then
       (self (Q1,O1,P1,M1,N1,R1,())).bind fun r45=>
       some (r45.1,())
      else
       some (Q1,())
     else
      some (Q1,())
def gh (a0:List (Option Nat)) (a1:Int) (a2:Int) (a3:Int) (_a4:Unit) (_a5:List aq):Nat:=a0.length+(a1.natAbs+(a2.natAbs+(a3.natAbs+2)))
def dL (a0:List (Option Nat)) (a1:Int) (a2:Int) (a3:Int) (a4:Unit) (a5:List aq):Option ((List (Option Nat))×Unit):=
 He (fun self x=>bY self x.1 x.2.1 x.2.2.1 x.2.2.2.1 x.2.2.2.2.1 x.2.2.2.2.2.1) (gh a0 a1 a2 a3 a4 a5) (a0,a1,a2,a3,a4,a5,())
abbrev fJ:Type:=Int×Unit×Int×Int×Int×(List (Option Nat))×(List aq)×Unit
abbrev fG:Type:=(((List (Option Nat))×Unit) ⊕ (Int×Unit×Int×Int×(List (Option Nat))×(List aq)×Unit))
def fD (x1:fJ) (again:fJ→Option fG):Option fG:=
 match x1 with
 | (A,B,C,D,E,F,G,_)=>
 bif decide (E≤A) then
  (cJ F D E B G).bind fun r2=>
  again (A,B,C,E,w64 (E+C),r2.1,G,())
 else
  some (.inr (A,B,C,D,F,G,()))
abbrev fL:Type:=Int×Unit×Int×Int×Int×(List (Option Nat))×(List aq)×Unit
abbrev fI:Type:=((((List (Option Nat))×Unit) ⊕ ((List (Option Nat))×(List aq)×Unit)) ⊕ (Int×Unit×Int×Int×(List (Option Nat))×(List aq)×Unit))
def fF (x1:fL) (again:fL→Option fI):Option fI:=
 match x1 with
 | (A,B,C,D,E,F,G,_)=>
 bif decide (E≤A) then
  (dL F D (w64 (D+C)) E B G).bind fun r2=>
  again (A,B,C,E,w64 (E+(w64 (2*C))),r2.1,G,())
 else
  some (.inr (A,B,C,D,F,G,()))
abbrev fK:Type:=Int×Unit×Int×(List (Option Nat))×(List aq)×Unit
abbrev fH:Type:=(((List (Option Nat))×Unit) ⊕ ((List (Option Nat))×(List aq)×Unit))
def fE (x1:fK) (again:fK→Option fH):Option fH:=
 match x1 with
 | (A,B,C,D,E,_)=>
 bif decide (C<A) then
  aI (
   iter (X:=fL) (β:=fI) (A.natAbs+(C.natAbs+(Int.natAbs (0:Int)+(Int.natAbs (w64 (2*C))+(D.length+2))))) (A,B,C,0,w64 (2*C),D,E,()) (fF)) fun (F,G,H,I,J,K,_)=>
  bif decide ((w64 (I+H))<F) then
   (dL J I (w64 (I+H)) F G K).bind fun r3=>
   again (F,G,w64 (H*2),r3.1,K,())
  else
   again (F,G,w64 (H*2),J,K,())
 else
  some (.inr (D,E,()))
def jg (a0:List (Option Nat)) (a1:Int) (a2:Unit) (a3:List aq):Option ((List (Option Nat))×Unit):=
 aI (
  iter (X:=fJ) (β:=fG) (a1.natAbs+(Int.natAbs (20:Int)+(Int.natAbs (0:Int)+(Int.natAbs (20:Int)+(a0.length+2))))) (a1,a2,20,0,20,a0,a3,()) (fD)) fun (A,B,C,D,E,F,_)=>
 (cJ E D A B F).bind fun r4=>
 aI (
  iter (X:=fK) (β:=fH) (A.natAbs+(C.natAbs+(r4.1.length+2))) (A,B,C,r4.1,F,()) (fE)) fun v10=>
 some (v10.1,())
def dR (a0:List (Option Nat)) (a1:Unit) (a2:List aq):Option ((List (Option Nat))×Unit):=
 (jg a0 ((a0.length:Int)) a1 a2).bind fun r1=>
 some (r1.1,())
abbrev gA:Type:=Int×(List (Option Nat))×Int×Int×Bys×Bys×Bys×Int×Int×(List aL)×(List aa)×Int×(List ah)×(List aC)×(List (Option Nat))×(List (Int×(Option Nat)))×(List aq)×Unit
abbrev jF:Type:=(((List (Option Nat))×(aj×(List aa)×(List (Int×(Option Nat)))×(List ah)×(List aC)×Int×Unit)×(List aq)×Unit) ⊕ ((List (Option Nat))×Bys×Bys×Bys×Int×Int×(List aL)×(List aa)×Int×(List ah)×(List aC)×(List (Int×(Option Nat)))×(List aq)×Unit))
def jE (x1:gA) (again:gA→Option jF):Option jF:=
 match x1 with
 | (A,B,C,D,E,F,G,H,I,J,K,L,M,N,O,P,Q,_)=>
 bif decide (D<C) then
  chk (decide (0≤D)&&decide (D<(O.length:Int))) <|
  (O[D.toNat]?).bind fun y2=>
  (
   Option.bind (gB y2 Q) fun r3=>
   bif decide (r3.1>0) then
    Option.bind (y2) fun h4=>
    Option.bind (Q[h4]?) fun y5=>
    some (decide (y5.2.2.2.2.2.2.2.2.1≤A),())
   else
    some (false,())).bind fun v6=>
  bif v6.1 then
   chk (decide (((B.length)+1)*8≤140737488355328)&&decide ((B.length)+1≤maxLen)) <|
   again (A,B++[y2],C,w64 (D+1),E,F,G,H,I,J,K,L,M,N,O,P,Q,())
  else
   again (A,B,C,w64 (D+1),E,F,G,H,I,J,K,L,M,N,O,P,Q,())
 else
  some (.inr (B,E,F,G,H,I,J,K,L,M,N,P,Q,()))
def lB (a0:aj×(List aa)×(List (Int×(Option Nat)))×(List ah)×(List aC)×Int×Unit) (a1:Int) (a2:List aq):Option ((List (Option Nat))×(aj×(List aa)×(List (Int×(Option Nat)))×(List ah)×(List aC)×Int×Unit)×(List aq)×Unit):=
 (gI (a0.1,a0.2.1,a0.2.2.1,a0.2.2.2.1,a0.2.2.2.2.1,a0.2.2.2.2.2.1,())).bind fun r1=>
 aI (
  iter (X:=gA) (β:=jF) (a1.natAbs+(List.length ([]:List (Option Nat))+(Int.natAbs ((r1.1.length:Int))+(Int.natAbs (0:Int)+(r1.2.1.1.1.length+(r1.2.1.1.2.1.length+(r1.2.1.1.2.2.1.length+(r1.2.1.1.2.2.2.1.natAbs+(r1.2.1.1.2.2.2.2.1.natAbs+(r1.2.1.1.2.2.2.2.2.length+(r1.2.1.2.1.length+(r1.2.1.2.2.2.2.2.1.natAbs+(r1.2.1.2.2.2.1.length+(r1.2.1.2.2.2.2.1.length+(r1.1.length+(r1.2.1.2.2.1.length+(a2.length+2))))))))))))))))) (a1,[],(r1.1.length:Int),0,r1.2.1.1.1,r1.2.1.1.2.1,r1.2.1.1.2.2.1,r1.2.1.1.2.2.2.1,r1.2.1.1.2.2.2.2.1,r1.2.1.1.2.2.2.2.2,r1.2.1.2.1,r1.2.1.2.2.2.2.2.1,r1.2.1.2.2.2.1,r1.2.1.2.2.2.2.1,r1.1,r1.2.1.2.2.1,a2,()) (jE)) fun (A,B,C,D,E,F,G,H,I,J,K,L,M,_)=>
 (dR A () M).bind fun r9=>
 some (r9.1,((B,C,D,E,F,G),H,L,J,K,I,()),M,())
abbrev vG:Type:=(List fO)×Int×Int×(List (Option Nat))×(List aq)×Unit
abbrev AH:Type:=(((List fO)×Int×Unit) ⊕ ((List fO)×(List aq)×Unit))
def AG (x1:vG) (again:vG→Option AH):Option AH:=
 match x1 with
 | (A,B,C,D,E,_)=>
 bif decide (C<B) then
  chk (decide (0≤C)&&decide (C<(D.length:Int))) <|
  (D[C.toNat]?).bind fun y2=>
  (y2).bind fun h3=>
  (E[h3]?).bind fun y4=>
  (gB y2 E).bind fun r5=>
  (nA r5.1).bind fun r6=>
  (y2).bind fun h7=>
  (E[h7]?).bind fun y8=>
  chk (decide (((A.length)+1)*32≤140737488355328)&&decide ((A.length)+1≤maxLen)) <|
  again (A++[(y4.1,r6.1,y8.2.2.2.2.2.2.2.2.1)],B,w64 (C+1),D,E,())
 else
  some (.inr (A,E,()))
def Ir (a0:aj) (a1:List aa) (a2:Int):Option ((List fO)×Int×Unit):=
 Uh (wY a0 a1 a2 []) (fun r1=>
  bif r1.2.1 != 0 then
   some ([],r1.2.1,())
  else
   none) (
  (Cj a0 a1 a2 []).bind fun r2=>
  bif r2.2.1 != 0 then
   some ([],r2.2.1,())
  else
   (lB (r2.1.1,r2.1.2.1,r2.1.2.2.1,r2.1.2.2.2.1,r2.1.2.2.2.2.1,r2.1.2.2.2.2.2.1,()) a2 r2.2.2.1).bind fun r3=>
   aI (
    iter (X:=vG) (β:=AH) (List.length ([]:List fO)+(Int.natAbs ((r3.1.length:Int))+(Int.natAbs (0:Int)+(r3.1.length+(r3.2.2.1.length+2))))) ([],(r3.1.length:Int),0,r3.1,r3.2.2.1,()) (AG)) fun v12=>
   some (v12.1,0,()))
abbrev xh:Type:=Int×(List bn)×Int×Int×Int×Int×Bys×Bys×Int×Int×Int×Int×Int×Int×Int×Int×Int×Int×Int×Int×Int×(List bn)×Unit
abbrev xg:Type:=((((List bn)×Unit) ⊕ ((List bn)×Unit)) ⊕ (Int×(List bn)×Int×Int×Int×Int×Bys×Bys×Int×Int×Int×Int×Int×Int×Int×Int×Int×Int×Int×Int×Int×(List bn)×Unit))
def rS (x1:xh) (again:xh→Option xg):Option xg:=
 match x1 with
 | (A,B,C,D,E,F,G,H,I,J,K,L,M,N,O,P,Q,R,S,T,U,V,_)=>
 (
  bif decide (C>0) then
   chk (decide (0≤(w64 (C - 1)))&&decide ((w64 (C - 1))<(B.length:Int))) <|
   Option.bind (B[(w64 (C - 1)).toNat]?) fun y2=>
   some (decide (M<y2.2.2.2.2.2.1),())
  else
   some (false,())).bind fun v3=>
 bif v3.1 then
  again (A,B,w64 (C - 1),D,E,F,G,H,I,J,K,L,M,N,O,P,Q,R,S,T,U,V,())
 else
  some (.inr (A,B,C,D,E,F,G,H,I,J,K,L,M,N,O,P,Q,R,S,T,U,V,()))
abbrev rT:Type:=Int×(List bn)×Int×Int×(List bn)×Unit
abbrev xe:Type:=(((List bn)×Unit) ⊕ ((List bn)×Unit))
def xd (x1:rT) (again:rT→Option xe):Option xe:=
 match x1 with
 | (A,B,C,D,E,_)=>
 bif decide (D<C) then
  chk (decide (0≤D)&&decide (D<(E.length:Int))) <|
  (E[D.toNat]?).bind fun y2=>
  bif y2.2.2.2.2.2.2.2.2.2.1==0 then
   again (A,B,C,w64 (D+1),E,())
  else
   bif decide (y2.2.2.2.2.2.1>A) then
    again (A,B,C,w64 (D+1),E,())
   else
    aI (
     iter (X:=xh) (β:=xg) (A.natAbs+(B.length+(Int.natAbs ((B.length:Int))+(C.natAbs+(D.natAbs+(y2.1.natAbs+(y2.2.1.length+(y2.2.2.1.length+(y2.2.2.2.1.1.natAbs+(y2.2.2.2.1.2.natAbs+(y2.2.2.2.2.1.1.natAbs+(y2.2.2.2.2.1.2.natAbs+(y2.2.2.2.2.2.1.natAbs+(y2.2.2.2.2.2.2.1.1.natAbs+(y2.2.2.2.2.2.2.1.2.natAbs+(y2.2.2.2.2.2.2.2.1.1.natAbs+(y2.2.2.2.2.2.2.2.1.2.natAbs+(y2.2.2.2.2.2.2.2.2.1.1.natAbs+(y2.2.2.2.2.2.2.2.2.1.2.natAbs+(y2.2.2.2.2.2.2.2.2.2.1.natAbs+(y2.2.2.2.2.2.2.2.2.2.2.natAbs+(E.length+2)))))))))))))))))))))) (A,B,(B.length:Int),C,D,y2.1,y2.2.1,y2.2.2.1,y2.2.2.2.1.1,y2.2.2.2.1.2,y2.2.2.2.2.1.1,y2.2.2.2.2.1.2,y2.2.2.2.2.2.1,y2.2.2.2.2.2.2.1.1,y2.2.2.2.2.2.2.1.2,y2.2.2.2.2.2.2.2.1.1,y2.2.2.2.2.2.2.2.1.2,y2.2.2.2.2.2.2.2.2.1.1,y2.2.2.2.2.2.2.2.2.1.2,y2.2.2.2.2.2.2.2.2.2.1,y2.2.2.2.2.2.2.2.2.2.2,E,()) (rS)) fun (F,G,H,I,J,K,L,M,N,O,P,Q,R,S,T,U,V,W,Y,Z,A0,B0,_)=>
    (o9 G H [(K,L,M,(N,O),(P,Q),R,(S,T),(U,V),(W,Y),Z,A0)]).bind fun r4=>
    again (F,r4.1,I,w64 (J+1),B0,())
 else
  some (.inr (B,()))
def CW (a0:dO) (a1:Int):Option ((List bn)×Unit):=
 (rV a0).bind fun r1=>
 aI (
  iter (X:=rT) (β:=xe) (a1.natAbs+(List.length ([]:List bn)+(Int.natAbs ((r1.1.length:Int))+(Int.natAbs (0:Int)+(r1.1.length+2))))) (a1,[],(r1.1.length:Int),0,r1.1,()) (xd)) fun v9=>
 some (v9.1,())
abbrev DX:Type:=(List fO)×Int×Int×(List bn)×Unit
abbrev Ix:Type:=(((List fO)×Int×Unit) ⊕ ((List fO)×Unit))
def Iw (x1:DX) (again:DX→Option Ix):Option Ix:=
 match x1 with
 | (A,B,C,D,_)=>
 bif decide (C<B) then
  chk (decide (0≤C)&&decide (C<(D.length:Int))) <|
  (D[C.toNat]?).bind fun y2=>
  chk (decide (((A.length)+1)*32≤140737488355328)&&decide ((A.length)+1≤maxLen)) <|
  again (A++[(y2.1,y2.2.2.2.2.2.2.2.2.2,y2.2.2.2.2.2.1)],B,w64 (C+1),D,())
 else
  some (.inr (A,()))
def Ut (a0:aj) (a1:List aa) (a2:Int):Option ((List fO)×Int×Unit):=
 (vQ a0 a1 a2).bind fun r1=>
 bif r1.1 != 0 then
  some ([],r1.1,())
 else
  (G8 a0 a1 a2).bind fun r2=>
  (CW (r2.1.1,r2.1.2.1,r2.1.2.2.1,r2.1.2.2.2.1) a2).bind fun r3=>
  aI (
   iter (X:=DX) (β:=Ix) (List.length ([]:List fO)+(Int.natAbs ((r3.1.length:Int))+(Int.natAbs (0:Int)+(r3.1.length+2)))) ([],(r3.1.length:Int),0,r3.1,()) (Iw)) fun v6=>
  some (v6.1,0,())
abbrev gW:Type:=(List fO)×(List fO)×Int×Int×Unit
abbrev jX:Type:=((Bool×Unit) ⊕ Unit)
def jW (x1:gW) (again:gW→Option jX):Option jX:=
 match x1 with
 | (A,B,C,D,_)=>
 bif decide (D<C) then
  (idx A D).bind fun y2=>
  (idx B D).bind fun y3=>
  bif !((y2.1==y3.1)&&(((y2.2.1.1==y3.2.1.1)&&((y2.2.1.2==y3.2.1.2)&&true))&&((y2.2.2==y3.2.2)&&true))) then
   some (.inl (false,()))
  else
   again (A,B,C,w64 (D+1),())
 else
  some (.inr ())
def mD (a0:List fO) (a1:List fO):Option (Bool×Unit):=
 bif ((a0.length:Int)) != ((a1.length:Int)) then
  some (false,())
 else
  aI (
   iter (X:=gW) (β:=jX) (a0.length+(a1.length+(Int.natAbs ((a0.length:Int))+(Int.natAbs (0:Int)+2)))) (a0,a1,(a0.length:Int),0,()) (jW)) fun _=>
  some (true,())
abbrev qc:Type:=Int×(List Int)×Int×Int×(List (Option Nat))×(List aq)×Unit
abbrev uO:Type:=(((List Int)×Int×Unit) ⊕ ((List Int)×(List aq)×Unit))
def uN (x1:qc) (again:qc→Option uO):Option uO:=
 match x1 with
 | (A,B,C,D,E,F,_)=>
 bif decide (D<C) then
  chk (decide (0≤D)&&decide (D<(E.length:Int))) <|
  (E[D.toNat]?).bind fun y2=>
  (
   Option.bind (gB y2 F) fun r3=>
   bif decide (r3.1>0) then
    Option.bind (y2) fun h4=>
    Option.bind (F[h4]?) fun y5=>
    some (decide (y5.2.2.2.2.2.2.2.2.1<A),())
   else
    some (false,())).bind fun v6=>
  bif v6.1 then
   (y2).bind fun h7=>
   (F[h7]?).bind fun y8=>
   chk (decide (((B.length)+1)*8≤140737488355328)&&decide ((B.length)+1≤maxLen)) <|
   again (A,B++[y8.1],C,w64 (D+1),E,F,())
  else
   again (A,B,C,w64 (D+1),E,F,())
 else
  some (.inr (B,F,()))
def AI (a0:aj) (a1:List aa) (a2:Int):Option ((List Int)×Int×Unit):=
 Uh (wY a0 a1 a2 []) (fun r1=>
  bif r1.2.1 != 0 then
   some ([],r1.2.1,())
  else
   none) (
  (Cj a0 a1 a2 []).bind fun r2=>
  bif r2.2.1 != 0 then
   some ([],r2.2.1,())
  else
   (gI (r2.1.1,r2.1.2.1,r2.1.2.2.1,r2.1.2.2.2.1,r2.1.2.2.2.2.1,r2.1.2.2.2.2.2.1,())).bind fun r3=>
   aI (
    iter (X:=qc) (β:=uO) (a2.natAbs+(List.length ([]:List Int)+(Int.natAbs ((r3.1.length:Int))+(Int.natAbs (0:Int)+(r3.1.length+(r2.2.2.1.length+2)))))) (a2,[],(r3.1.length:Int),0,r3.1,r2.2.2.1,()) (uN)) fun v12=>
   some (v12.1,0,()))
abbrev vP:Type:=Int×(List Int)×Int×Int×(List bn)×Unit
abbrev AX:Type:=(((List Int)×Int×Unit) ⊕ ((List Int)×Unit))
def AW (x1:vP) (again:vP→Option AX):Option AX:=
 match x1 with
 | (A,B,C,D,E,_)=>
 bif decide (D<C) then
  chk (decide (0≤D)&&decide (D<(E.length:Int))) <|
  (E[D.toNat]?).bind fun y2=>
  (
   bif decide (y2.2.2.2.2.2.2.2.2.2.1>0) then
    some (decide (y2.2.2.2.2.2.1<A),())
   else
    some (false,())).bind fun v3=>
  bif v3.1 then
   chk (decide (((B.length)+1)*8≤140737488355328)&&decide ((B.length)+1≤maxLen)) <|
   again (A,B++[y2.1],C,w64 (D+1),E,())
  else
   again (A,B,C,w64 (D+1),E,())
 else
  some (.inr (B,()))
def Iy (a0:aj) (a1:List aa) (a2:Int):Option ((List Int)×Int×Unit):=
 (vQ a0 a1 a2).bind fun r1=>
 bif r1.1 != 0 then
  some ([],r1.1,())
 else
  (G8 a0 a1 a2).bind fun r2=>
  (rV (r2.1.1,r2.1.2.1,r2.1.2.2.1,r2.1.2.2.2.1)).bind fun r3=>
  aI (
   iter (X:=vP) (β:=AX) (a2.natAbs+(List.length ([]:List Int)+(Int.natAbs ((r3.1.length:Int))+(Int.natAbs (0:Int)+(r3.1.length+2))))) (a2,[],(r3.1.length:Int),0,r3.1,()) (AW)) fun v7=>
  some (v7.1,0,())
abbrev kM:Type:=(List Int)×(List Int)×Int×Int×Unit
abbrev oU:Type:=((Bool×Unit) ⊕ Unit)
def oT (x1:kM) (again:kM→Option oU):Option oU:=
 match x1 with
 | (A,B,C,D,_)=>
 bif decide (D<C) then
  (idx A D).bind fun y2=>
  (idx B D).bind fun y3=>
  bif y2 != y3 then
   some (.inl (false,()))
  else
   again (A,B,C,w64 (D+1),())
 else
  some (.inr ())
def ox (a0:List Int) (a1:List Int):Option (Bool×Unit):=
 bif ((a0.length:Int)) != ((a1.length:Int)) then
  some (false,())
 else
  aI (
   iter (X:=kM) (β:=oU) (a0.length+(a1.length+(Int.natAbs ((a0.length:Int))+(Int.natAbs (0:Int)+2)))) (a0,a1,(a0.length:Int),0,()) (oT)) fun _=>
  some (true,())
abbrev yh:Type:=(List Int)×Int×Int×(List ak)×Unit
abbrev CU:Type:=(((List Int)×Int×Unit) ⊕ ((List Int)×Unit))
def CT (x1:yh) (again:yh→Option CU):Option CU:=
 match x1 with
 | (A,B,C,D,_)=>
 bif decide (C<B) then
  chk (decide (0≤C)&&decide (C<(D.length:Int))) <|
  (D[C.toNat]?).bind fun y2=>
  bif decide (y2.2.1≥0) then
   chk (decide (((A.length)+1)*8≤140737488355328)&&decide ((A.length)+1≤maxLen)) <|
   again (A++[y2.2.1],B,w64 (C+1),D,())
  else
   again (A,B,w64 (C+1),D,())
 else
  some (.inr (A,()))
def Mf (a0:aj) (a1:List aa) (a2:Int):Option ((List Int)×Int×Unit):=
 (vQ a0 a1 a2).bind fun r1=>
 bif r1.1 != 0 then
  some ([],r1.1,())
 else
  (G8 a0 a1 a2).bind fun r2=>
  aI (
   iter (X:=yh) (β:=CU) (List.length ([]:List Int)+(Int.natAbs ((r2.1.2.2.1.length:Int))+(Int.natAbs (0:Int)+(r2.1.2.2.1.length+2)))) ([],(r2.1.2.2.1.length:Int),0,r2.1.2.2.1,()) (CT)) fun v5=>
  (slices_Sort_int v5.1).bind fun r6=>
  some (r6.1,0,())
abbrev vO:Type:=(List aa)×Int×Int×Int×Int×Int×Bys×Bys×Bys×Int×Int×(List aL)×Int×Int×Int×Int×Int×Bys×Int×Int×Bys×Int×Int×Int×Int×Bys×Bys×Bys×Int×Int×(List aL)×(List aa)×(List ak)×(List ah)×Unit
abbrev AV:Type:=((aa×Int×Unit) ⊕ ((List aa)×Int×Int×Int×Bys×Bys×Bys×Int×Int×(List aL)×Int×Int×Int×Int×Int×Bys×Int×Int×Bys×Int×Int×Int×Int×Bys×Bys×Bys×Int×Int×(List aL)×(List aa)×(List ak)×(List ah)×Unit))
def AU (x1:vO) (again:vO→Option AV):Option AV:=
 match x1 with
 | (A,B,C,D,E,F,G,H,I,J,K,L,M,N,O,P,Q,R,S,T,U,V,W,X,Y,Z,A0,B0,C0,D0,E0,F0,G0,H0,_)=>
 bif decide (F<E) then
  chk (decide (0≤F)&&decide (F<(G0.length:Int))) <|
  (G0[F.toNat]?).bind fun y2=>
  (
   bif decide (y2.2.1≥0) then
    Option.bind (idx A y2.2.1) fun y3=>
    some (y3.2.2.1==C,())
   else
    some (false,())).bind fun v4=>
  bif v4.1 then
   again (A,B,C,y2.2.1,E,w64 (F+1),G,H,I,J,K,L,M,N,O,P,Q,R,S,T,U,V,W,X,Y,Z,A0,B0,C0,D0,E0,F0,G0,H0,())
  else
   again (A,B,C,D,E,w64 (F+1),G,H,I,J,K,L,M,N,O,P,Q,R,S,T,U,V,W,X,Y,Z,A0,B0,C0,D0,E0,F0,G0,H0,())
 else
  some (.inr (A,B,C,D,G,H,I,J,K,L,M,N,O,P,Q,R,S,T,U,V,W,X,Y,Z,A0,B0,C0,D0,E0,F0,G0,H0,()))
def Iv (a0:aj) (a1:List aa) (a2:Int) (a3:Int):Option (aa×Int×Unit):=
 (vQ a0 a1 a2).bind fun r1=>
 bif r1.1 != 0 then
  some ((0,0,0,0,0,[],(0,0),[],(0,0),0,0),r1.1,())
 else
  (
   bif decide (((a1.length:Int))>0) then
    Option.bind (idx a1 (w64 (((a1.length:Int)) - 1))) fun y2=>
    some (decide (a2<y2.1),())
   else
    some (false,())).bind fun v3=>
  bif v3.1 then
   some ((0,0,0,0,0,[],(0,0),[],(0,0),0,0),8,())
  else
   (G8 a0 a1 3652059).bind fun r4=>
   aI (
    iter (X:=vO) (β:=AV) (a1.length+(a2.natAbs+(a3.natAbs+(Int.natAbs ((-1):Int)+(Int.natAbs ((r4.1.2.2.1.length:Int))+(Int.natAbs (0:Int)+(a0.1.length+(a0.2.1.length+(a0.2.2.1.length+(a0.2.2.2.1.natAbs+(a0.2.2.2.2.1.natAbs+(a0.2.2.2.2.2.length+(Int.natAbs (0:Int)+(Int.natAbs (0:Int)+(Int.natAbs (0:Int)+(Int.natAbs (0:Int)+(Int.natAbs (0:Int)+(List.length ([]:Bys)+(Int.natAbs (0:Int)+(Int.natAbs (0:Int)+(List.length ([]:Bys)+(Int.natAbs (0:Int)+(Int.natAbs (0:Int)+(Int.natAbs (0:Int)+(Int.natAbs (0:Int)+(r4.1.1.1.length+(r4.1.1.2.1.length+(r4.1.1.2.2.1.length+(r4.1.1.2.2.2.1.natAbs+(r4.1.1.2.2.2.2.1.natAbs+(r4.1.1.2.2.2.2.2.length+(r4.1.2.1.length+(r4.1.2.2.1.length+(r4.1.2.2.2.1.length+2)))))))))))))))))))))))))))))))))) (a1,a2,a3,(-1),(r4.1.2.2.1.length:Int),0,a0.1,a0.2.1,a0.2.2.1,a0.2.2.2.1,a0.2.2.2.2.1,a0.2.2.2.2.2,0,0,0,0,0,[],0,0,[],0,0,0,0,r4.1.1.1,r4.1.1.2.1,r4.1.1.2.2.1,r4.1.1.2.2.2.1,r4.1.1.2.2.2.2.1,r4.1.1.2.2.2.2.2,r4.1.2.1,r4.1.2.2.1,r4.1.2.2.2.1,()) (AU)) fun (A,B,C,D,E,F,G,H,I,J,_,_,_,_,_,_,_,_,_,_,_,_,_,_,_,_,_,_,_,_,K,_,_)=>
   bif decide (D<0) then
    some ((0,0,0,0,0,[],(0,0),[],(0,0),0,0),5,())
   else
    bif decide (((A.length:Int))≥2000) then
     some ((0,0,0,0,0,[],(0,0),[],(0,0),0,0),2,())
    else
     (DY A 2).bind fun r10=>
     (idx A D).bind fun y11=>
     (mC A).bind fun r12=>
     chk (decide (((r12.1.length)+1)*120≤140737488355328)&&decide ((r12.1.length)+1≤maxLen)) <|
     (
      Option.bind (idx A D) fun y13=>
      Option.bind (D7 y13.2.2.2.1) fun r14=>
      bif r14.1.2.2.1 then
       Option.bind (idx A D) fun y15=>
       bif decide (y15.2.2.2.2.2.2.2.2.2.1<B) then
        some (true,())
       else
        Option.bind (gC ((E,F,G,H,I,J),r12.1++[(B,2,w64 (r10.1+1),5,y11.2.2.2.2.1,[],(0,0),[],(0,0),0,C)],K,[]) ((A.length:Int))) fun r16=>
        some (r16.1 != 0,())
      else
       Option.bind (gC ((E,F,G,H,I,J),r12.1++[(B,2,w64 (r10.1+1),5,y11.2.2.2.2.1,[],(0,0),[],(0,0),0,C)],K,[]) ((A.length:Int))) fun r17=>
       some (r17.1 != 0,())).bind fun v18=>
     bif v18.1 then
      some ((B,2,w64 (r10.1+1),6,y11.2.2.2.2.1,[],(0,0),[],(0,0),0,C),0,())
     else
      some ((B,2,w64 (r10.1+1),5,y11.2.2.2.2.1,[],(0,0),[],(0,0),0,C),0,())
def lz (a0:aj) (a1:List aa) (a2:Int) (a3:Int):Option (Bool×Unit):=
 (Ir a0 a1 a2).bind fun r1=>
 (Ut a0 a1 a2).bind fun r2=>
 bif r1.2.1 != r2.2.1 then
  some (false,())
 else
  (mD r1.1 r2.1).bind fun r3=>
  bif !r3.1 then
   some (false,())
  else
   (AI a0 a1 a2).bind fun r4=>
   (Iy a0 a1 a2).bind fun r5=>
   bif r4.2.1 != r5.2.1 then
    some (false,())
   else
    (ox r4.1 r5.1).bind fun r6=>
    bif !r6.1 then
     some (false,())
    else
     (CG a0 a1 a2).bind fun r7=>
     (Mf a0 a1 a2).bind fun r8=>
     bif r7.2.1 != r8.2.1 then
      some (false,())
     else
      (ox r7.1 r8.1).bind fun r9=>
      bif !r9.1 then
       some (false,())
      else
       (AF a0 a1 a2 a3).bind fun r10=>
       (Iv a0 a1 a2 a3).bind fun r11=>
       (
        bif r10.2.1==r11.2.1 then
         bif (r10.1.1==r11.1.1)&&((r10.1.2.1==r11.1.2.1)&&((r10.1.2.2.1==r11.1.2.2.1)&&((r10.1.2.2.2.1==r11.1.2.2.2.1)&&((r10.1.2.2.2.2.1==r11.1.2.2.2.2.1)&&((r10.1.2.2.2.2.2.1==r11.1.2.2.2.2.2.1)&&(((r10.1.2.2.2.2.2.2.1.1==r11.1.2.2.2.2.2.2.1.1)&&((r10.1.2.2.2.2.2.2.1.2==r11.1.2.2.2.2.2.2.1.2)&&true))&&((r10.1.2.2.2.2.2.2.2.1==r11.1.2.2.2.2.2.2.2.1)&&(((r10.1.2.2.2.2.2.2.2.2.1.1==r11.1.2.2.2.2.2.2.2.2.1.1)&&((r10.1.2.2.2.2.2.2.2.2.1.2==r11.1.2.2.2.2.2.2.2.2.1.2)&&true))&&((r10.1.2.2.2.2.2.2.2.2.2.1==r11.1.2.2.2.2.2.2.2.2.2.1)&&((r10.1.2.2.2.2.2.2.2.2.2.2==r11.1.2.2.2.2.2.2.2.2.2.2)&&true)))))))))) then
          Option.bind (Sk) fun r12=>
          some (r12.1,())
         else
          some (false,())
        else
         some (false,())).bind fun v13=>
       some (v13.1,())
end Go.Md
end
