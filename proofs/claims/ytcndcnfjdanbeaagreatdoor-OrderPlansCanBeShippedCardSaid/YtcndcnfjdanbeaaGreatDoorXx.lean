/-
  The plain models of the functions that the law reaches, fourth part. No condition.
-/
import Derived.Test.YtcndcnfjdanbeaaGreatDoorXo
import Derived.Test.YtcndcnfjdanbeaaGreatDoorXd
set_option linter.all false
noncomputable section
namespace Go.Md
open Go.Dn
abbrev slices_Sort_int (l:List Int):Option (List Int×Unit):=VD l
noncomputable section
abbrev dz:Type:=yu×Int×Int×(List au)
abbrev gE:Type:=(List (Option Nat))×Int×Int×Bys×Bys×Bys×Int×Int×(List aO)×(List aa)×Int×(List Int)×(List ah)×(List au)×(List (Int×(Option Nat)))×Unit
abbrev jr:Type:=(((List (Option Nat))×(aj×(List aa)×(List (Int×(Option Nat)))×(List ah)×(List au)×Int×Unit)×Unit) ⊕ ((List (Option Nat))×Bys×Bys×Bys×Int×Int×(List aO)×(List aa)×Int×(List ah)×(List au)×(List (Int×(Option Nat)))×Unit))
def jq (x1:gE) (again:gE→Option jr):Option jr:=
 match x1 with
 | (A,B,C,D,E,F,G,H,I,J,K,L,M,N,O,_)=>
 bif decide (C<B) then
  chk (decide (0≤C)&&decide (C<(L.length:Int))) <|
  (L[C.toNat]?).bind fun y2=>
  chk (decide (((A.length)+1)*8≤140737488355328)&&decide ((A.length)+1≤maxLen)) <|
  again (A++[(Option.getD (α:=Option Nat) (bA (k:=tI) (v:= .hnd) O y2) none)],B,w64 (C+1),D,E,F,G,H,I,J,K,L,M,N,O,())
 else
  some (.inr (A,D,E,F,G,H,I,J,K,M,N,O,()))
def lN (a0:aj×(List aa)×(List (Int×(Option Nat)))×(List ah)×(List au)×Int×Unit):Option ((List (Option Nat))×(aj×(List aa)×(List (Int×(Option Nat)))×(List ah)×(List au)×Int×Unit)×Unit):=
 chk (GZ a0.2.2.1) <|
 aL (
  iter (X:=gE) (β:=jr) (List.length ([]:List (Option Nat))+(Int.natAbs ((List.length (uc a0.2.2.1):Int))+(Int.natAbs (0:Int)+(a0.1.1.length+(a0.1.2.1.length+(a0.1.2.2.1.length+(a0.1.2.2.2.1.natAbs+(a0.1.2.2.2.2.1.natAbs+(a0.1.2.2.2.2.2.length+(a0.2.1.length+(a0.2.2.2.2.2.1.natAbs+(List.length ((uc a0.2.2.1):List Int)+(a0.2.2.2.1.length+(a0.2.2.2.2.1.length+(a0.2.2.1.length+2))))))))))))))) ([],(List.length (uc a0.2.2.1):Int),0,a0.1.1,a0.1.2.1,a0.1.2.2.1,a0.1.2.2.2.1,a0.1.2.2.2.2.1,a0.1.2.2.2.2.2,a0.2.1,a0.2.2.2.2.2.1,uc a0.2.2.1,a0.2.2.2.1,a0.2.2.2.2.1,a0.2.2.1,()) (jq)) fun (A,B,C,D,E,F,G,H,I,J,K,L,_)=>
 some (A,((B,C,D,E,F,G),H,L,J,K,I,()),())
end
end Go.Md
namespace Go.Md
open Go.Dn
end Go.Md
namespace Go.Md
open Go.Dn
abbrev aM:Ty:=(.st (.pair .str .str))
abbrev br:Type:=Bys×Bys
abbrev mO:Ty:=(.st (.pair .str (.pair .str az)))
abbrev bJ:Type:=Bys×Bys×ah
def dK (a0:Option Nat) (a1:Option Nat) (a2:List ak):Option (Int×Unit):=
 (a0).bind fun h1=>
 (a2[h1]?).bind fun y2=>
 (a1).bind fun h3=>
 (a2[h3]?).bind fun y4=>
 some (w64 (y2.2.2.2.2.2.2.2.2.1 - y4.2.2.2.2.2.2.2.2.1),())
abbrev cU:Type:=Int×Int×Unit×Int×Int×(List (Option Nat))×(List ak)×Unit
abbrev cR:Type:=((((List (Option Nat))×Unit) ⊕ ((List (Option Nat))×(List ak)×Unit)) ⊕ (Int×Int×Unit×Int×(List (Option Nat))×(List ak)×Unit))
def cO (x1:cU) (again:cU→Option cR):Option cR:=
 match x1 with
 | (A,B,C,D,E,F,G,_)=>
 bif decide (E>A) then
  chk (decide (0≤E)&&decide (E<(F.length:Int))) <|
  (F[E.toNat]?).bind fun y2=>
  chk (decide (0≤(w64 (E - 1)))&&decide ((w64 (E - 1))<(F.length:Int))) <|
  (F[(w64 (E - 1)).toNat]?).bind fun y3=>
  (dK y2 y3 G).bind fun r4=>
  bif decide (r4.1<0) then
   chk (decide (0≤(w64 (E - 1)))&&decide ((w64 (E - 1))<(F.length:Int))) <|
   (F[(w64 (E - 1)).toNat]?).bind fun y5=>
   chk (decide (0≤E)&&decide (E<(F.length:Int))) <|
   (F[E.toNat]?).bind fun y6=>
   chk (decide (0≤E)&&decide (E<(F.length:Int))) <|
   (F[E.toNat]?).bind fun _=>
   chk (decide (0≤(w64 (E - 1)))&&decide ((w64 (E - 1))<(List.length (List.set F E.toNat y5):Int))) <|
   ((List.set F E.toNat y5)[(w64 (E - 1)).toNat]?).bind fun _=>
   again (A,B,C,D,w64 (E - 1),List.set (List.set F E.toNat y5) (w64 (E - 1)).toNat y6,G,())
  else
   some (.inr (A,B,C,D,F,G,()))
 else
  some (.inr (A,B,C,D,F,G,()))
abbrev cT:Type:=Int×Int×Unit×Int×(List (Option Nat))×(List ak)×Unit
abbrev cQ:Type:=(((List (Option Nat))×Unit) ⊕ ((List (Option Nat))×(List ak)×Unit))
def bV (x1:cT) (again:cT→Option cQ):Option cQ:=
 match x1 with
 | (A,B,C,D,E,F,_)=>
 bif decide (D<B) then
  aL (
   iter (X:=cU) (β:=cR) (A.natAbs+(B.natAbs+(D.natAbs+(D.natAbs+(E.length+2))))) (A,B,C,D,D,E,F,()) (cO)) fun (G,H,I,J,K,L,_)=>
  again (G,H,I,w64 (J+1),K,L,())
 else
  some (.inr (E,F,()))
def cq (a0:List (Option Nat)) (a1:Int) (a2:Int) (a3:Unit) (a4:List ak):Option ((List (Option Nat))×Unit):=
 aL (
  iter (X:=cT) (β:=cQ) (a1.natAbs+(a2.natAbs+(Int.natAbs (w64 (a1+1))+(a0.length+2)))) (a1,a2,a3,w64 (a1+1),a0,a4,()) (bV)) fun v11=>
 some (v11.1,())
abbrev dN:Type:=Int×Int×Int×Int×(List (Option Nat))×(List ak)×Unit
abbrev dM:Type:=(((List (Option Nat))×Unit) ⊕ ((List (Option Nat))×(List ak)×Unit))
def dL (x1:dN) (again:dN→Option dM):Option dM:=
 match x1 with
 | (A,B,C,D,E,F,_)=>
 bif decide (D<C) then
  chk (decide (0≤(w64 (B+D)))&&decide ((w64 (B+D))<(E.length:Int))) <|
  (E[(w64 (B+D)).toNat]?).bind fun y2=>
  chk (decide (0≤(w64 (A+D)))&&decide ((w64 (A+D))<(E.length:Int))) <|
  (E[(w64 (A+D)).toNat]?).bind fun y3=>
  chk (decide (0≤(w64 (A+D)))&&decide ((w64 (A+D))<(E.length:Int))) <|
  (E[(w64 (A+D)).toNat]?).bind fun _=>
  chk (decide (0≤(w64 (B+D)))&&decide ((w64 (B+D))<(List.length (List.set E (w64 (A+D)).toNat y2):Int))) <|
  ((List.set E (w64 (A+D)).toNat y2)[(w64 (B+D)).toNat]?).bind fun _=>
  again (A,B,C,w64 (D+1),List.set (List.set E (w64 (A+D)).toNat y2) (w64 (B+D)).toNat y3,F,())
 else
  some (.inr (E,F,()))
def cc (a0:List (Option Nat)) (a1:Int) (a2:Int) (a3:Int) (_a4:Unit) (a5:List ak):Option ((List (Option Nat))×Unit):=
 aL (
  iter (X:=dN) (β:=dM) (a1.natAbs+(a2.natAbs+(a3.natAbs+(Int.natAbs (0:Int)+(a0.length+2))))) (a1,a2,a3,0,a0,a5,()) (dL)) fun v6=>
 some (v6.1,())
abbrev eY:Type:=Int×Unit×Int×Int×(List (Option Nat))×(List ak)×Unit
abbrev eX:Type:=(((List (Option Nat))×Unit) ⊕ (Int×Unit×Int×(List (Option Nat))×(List ak)×Unit))
def eW (x1:eY) (again:eY→Option eX):Option eX:=
 match x1 with
 | (A,B,C,D,E,F,_)=>
 bif C != D then
  bif decide (C>D) then
   (cc E (w64 (A - C)) A D B F).bind fun r2=>
   again (A,B,w64 (C - D),D,r2.1,F,())
  else
   (cc E (w64 (A - C)) (w64 ((w64 (A+D)) - C)) C B F).bind fun r3=>
   again (A,B,C,w64 (D - C),r3.1,F,())
 else
  some (.inr (A,B,C,E,F,()))
def fR (a0:List (Option Nat)) (a1:Int) (a2:Int) (a3:Int) (a4:Unit) (a5:List ak):Option ((List (Option Nat))×Unit):=
 aL (
  iter (X:=eY) (β:=eX) (a2.natAbs+(Int.natAbs (w64 (a2 - a1))+(Int.natAbs (w64 (a3 - a2))+(a0.length+2)))) (a2,a4,w64 (a2 - a1),w64 (a3 - a2),a0,a5,()) (eW)) fun (A,B,C,D,E,_)=>
 (cc D (w64 (A - C)) A C B E).bind fun r5=>
 some (r5.1,())
abbrev eC:Type:=Int×Unit×Int×Int×(List (Option Nat))×(List ak)×Unit
abbrev ez:Type:=(((List (Option Nat))×Unit) ⊕ (Int×Int×(List (Option Nat))×(List ak)×Unit))
def cE (x1:eC) (again:eC→Option ez):Option ez:=
 match x1 with
 | (A,B,C,D,E,F,_)=>
 bif decide (C<D) then
  let n2:Int:=w64 (Int.fdiv (bH (w64 (C+D))) (2 ^ 1))
  chk (decide (0≤n2)&&decide (n2<(E.length:Int))) <|
  (E[n2.toNat]?).bind fun y3=>
  chk (decide (0≤A)&&decide (A<(E.length:Int))) <|
  (E[A.toNat]?).bind fun y4=>
  (dK y3 y4 F).bind fun r5=>
  bif decide (r5.1<0) then
   again (A,B,w64 (n2+1),D,E,F,())
  else
   again (A,B,C,n2,E,F,())
 else
  some (.inr (A,C,E,F,()))
abbrev eD:Type:=Int×Int×(List (Option Nat))×(List ak)×Unit
abbrev eA:Type:=(((List (Option Nat))×Unit) ⊕ ((List (Option Nat))×(List ak)×Unit))
def ew (x1:eD) (again:eD→Option eA):Option eA:=
 match x1 with
 | (A,B,C,D,_)=>
 bif decide (B<(w64 (A - 1))) then
  chk (decide (0≤(w64 (B+1)))&&decide ((w64 (B+1))<(C.length:Int))) <|
  (C[(w64 (B+1)).toNat]?).bind fun y2=>
  chk (decide (0≤B)&&decide (B<(C.length:Int))) <|
  (C[B.toNat]?).bind fun y3=>
  chk (decide (0≤B)&&decide (B<(C.length:Int))) <|
  (C[B.toNat]?).bind fun _=>
  chk (decide (0≤(w64 (B+1)))&&decide ((w64 (B+1))<(List.length (List.set C B.toNat y2):Int))) <|
  ((List.set C B.toNat y2)[(w64 (B+1)).toNat]?).bind fun _=>
  again (A,w64 (B+1),List.set (List.set C B.toNat y2) (w64 (B+1)).toNat y3,D,())
 else
  some (.inr (C,D,()))
abbrev dU:Type:=Int×Unit×Int×Int×(List (Option Nat))×(List ak)×Unit
abbrev dP:Type:=(((List (Option Nat))×Unit) ⊕ (Int×Int×(List (Option Nat))×(List ak)×Unit))
def cz (x1:dU) (again:dU→Option dP):Option dP:=
 match x1 with
 | (A,B,C,D,E,F,_)=>
 bif decide (C<D) then
  let n2:Int:=w64 (Int.fdiv (bH (w64 (C+D))) (2 ^ 1))
  chk (decide (0≤A)&&decide (A<(E.length:Int))) <|
  (E[A.toNat]?).bind fun y3=>
  chk (decide (0≤n2)&&decide (n2<(E.length:Int))) <|
  (E[n2.toNat]?).bind fun y4=>
  (dK y3 y4 F).bind fun r5=>
  bif !(decide (r5.1<0)) then
   again (A,B,w64 (n2+1),D,E,F,())
  else
   again (A,B,C,n2,E,F,())
 else
  some (.inr (A,C,E,F,()))
abbrev dV:Type:=Int×Int×(List (Option Nat))×(List ak)×Unit
abbrev dR:Type:=(((List (Option Nat))×Unit) ⊕ ((List (Option Nat))×(List ak)×Unit))
def dO (x1:dV) (again:dV→Option dR):Option dR:=
 match x1 with
 | (A,B,C,D,_)=>
 bif decide (B>A) then
  chk (decide (0≤(w64 (B - 1)))&&decide ((w64 (B - 1))<(C.length:Int))) <|
  (C[(w64 (B - 1)).toNat]?).bind fun y2=>
  chk (decide (0≤B)&&decide (B<(C.length:Int))) <|
  (C[B.toNat]?).bind fun y3=>
  chk (decide (0≤B)&&decide (B<(C.length:Int))) <|
  (C[B.toNat]?).bind fun _=>
  chk (decide (0≤(w64 (B - 1)))&&decide ((w64 (B - 1))<(List.length (List.set C B.toNat y2):Int))) <|
  ((List.set C B.toNat y2)[(w64 (B - 1)).toNat]?).bind fun _=>
  again (A,w64 (B - 1),List.set (List.set C B.toNat y2) (w64 (B - 1)).toNat y3,D,())
 else
  some (.inr (C,D,()))
abbrev dW:Type:=Int×Int×Int×Unit×Int×Int×Int×Int×Int×(List (Option Nat))×(List ak)×Unit
abbrev dS:Type:=(((List (Option Nat))×Unit) ⊕ (Int×Int×Int×Unit×Int×Int×Int×(List (Option Nat))×(List ak)×Unit))
def cA (x1:dW) (again:dW→Option dS):Option dS:=
 match x1 with
 | (A,B,C,D,E,F,G,H,I,J,K,_)=>
 bif decide (G<H) then
  let n2:Int:=w64 (Int.fdiv (bH (w64 (G+H))) (2 ^ 1))
  chk (decide (0≤(w64 (I - n2)))&&decide ((w64 (I - n2))<(J.length:Int))) <|
  (J[(w64 (I - n2)).toNat]?).bind fun y3=>
  chk (decide (0≤n2)&&decide (n2<(J.length:Int))) <|
  (J[n2.toNat]?).bind fun y4=>
  (dK y3 y4 K).bind fun r5=>
  bif !(decide (r5.1<0)) then
   again (A,B,C,D,E,F,w64 (n2+1),H,I,J,K,())
  else
   again (A,B,C,D,E,F,G,n2,I,J,K,())
 else
  some (.inr (A,B,C,D,E,F,G,J,K,()))
def bC (self:((List (Option Nat))×Int×Int×Int×Unit×(List ak)×Unit)→Option ((List (Option Nat))×Unit)) (a0:List (Option Nat)) (a1:Int) (a2:Int) (a3:Int) (a4:Unit) (a5:List ak):Option ((List (Option Nat))×Unit):=
 bif (w64 (a2 - a1))==1 then
  aL (
   iter (X:=eC) (β:=ez) (a1.natAbs+(a2.natAbs+(a3.natAbs+(a0.length+2)))) (a1,a4,a2,a3,a0,a5,()) (cE)) fun (A,B,C,D,_)=>
  aL (
   iter (X:=eD) (β:=eA) (B.natAbs+(A.natAbs+(C.length+2))) (B,A,C,D,()) (ew)) fun v12=>
  some (v12.1,())
 else
  bif (w64 (a3 - a2))==1 then
   aL (
    iter (X:=dU) (β:=dP) (a2.natAbs+(a1.natAbs+(a2.natAbs+(a0.length+2)))) (a2,a4,a1,a2,a0,a5,()) (cz)) fun (F,G,H,I,_)=>
   aL (
    iter (X:=dV) (β:=dR) (G.natAbs+(F.natAbs+(H.length+2))) (G,F,H,I,()) (dO)) fun v24=>
   some (v24.1,())
  else
   let n25:Int:=w64 (Int.fdiv (bH (w64 (a1+a3))) (2 ^ 1))
   aL (γ:=(Int×Int×Int×Unit×Int×Int×Int×Int×(List (Option Nat))×(List ak)×Unit)) (
    bif decide (a2>n25) then
     some (.inr (a1,a2,a3,a4,n25,w64 (n25+a2),w64 ((w64 (n25+a2)) - a3),n25,a0,a5,()))
    else
     some (.inr (a1,a2,a3,a4,n25,w64 (n25+a2),a1,a2,a0,a5,()))) fun (K,L,M,N,O,P,Q,R,S,T,_)=>
   aL (
    iter (X:=dW) (β:=dS) (K.natAbs+(L.natAbs+(M.natAbs+(O.natAbs+(P.natAbs+(Q.natAbs+(R.natAbs+(Int.natAbs (w64 (P - 1))+(S.length+2))))))))) (K,L,M,N,O,P,Q,R,w64 (P - 1),S,T,()) (cA)) fun (U,V,W,Y,Z,A0,B0,C0,D0,_)=>
   bif decide (B0<V) then
    aL (γ:=(Int×Int×Unit×Int×Int×Int×(List (Option Nat))×(List ak)×Unit)) (
     bif decide (V<(w64 (A0 - B0))) then
      (fR C0 B0 V (w64 (A0 - B0)) Y D0).bind fun r33=>
      some (.inr (U,W,Y,Z,B0,w64 (A0 - B0),r33.1,D0,()))
     else
      some (.inr (U,W,Y,Z,B0,w64 (A0 - B0),C0,D0,()))) fun (E0,F0,G0,H0,I0,J0,K0,L0,_)=>
    bif decide (E0<I0) then
     aL (γ:=(Int×Unit×Int×Int×(List (Option Nat))×(List ak)×Unit)) (
      bif decide (I0<H0) then
       (self (K0,E0,I0,H0,G0,L0,())).bind fun r35=>
       some (.inr (F0,G0,H0,J0,r35.1,L0,()))
      else
       some (.inr (F0,G0,H0,J0,K0,L0,()))) fun (M0,N0,O0,P0,Q0,R0,_)=>
     bif decide (O0<P0) then
      bif decide (P0<M0) then
       (self (Q0,O0,P0,M0,N0,R0,())).bind fun r37=>
       some (r37.1,())
      else
       some (Q0,())
     else
      some (Q0,())
    else
     aL (γ:=(Int×Unit×Int×Int×(List (Option Nat))×(List ak)×Unit)) (
      some (.inr (F0,G0,H0,J0,K0,L0,()))) fun (S0,T0,U0,V0,W0,X0,_)=>
     bif decide (U0<V0) then
      bif decide (V0<S0) then
       (self (W0,U0,V0,S0,T0,X0,())).bind fun r39=>
       some (r39.1,())
      else
       some (W0,())
     else
      some (W0,())
   else
    aL (γ:=(Int×Int×Unit×Int×Int×Int×(List (Option Nat))×(List ak)×Unit)) (
     some (.inr (U,W,Y,Z,B0,w64 (A0 - B0),C0,D0,()))) fun (Y0,Z0,A1,B1,C1,D1,E1,F1,_)=>
    bif decide (Y0<C1) then
     aL (γ:=(Int×Unit×Int×Int×(List (Option Nat))×(List ak)×Unit)) (
      bif decide (C1<B1) then
       (self (E1,Y0,C1,B1,A1,F1,())).bind fun r41=>
       some (.inr (Z0,A1,B1,D1,r41.1,F1,()))
      else
       some (.inr (Z0,A1,B1,D1,E1,F1,()))) fun (G1,H1,I1,J1,K1,L1,_)=>
     bif decide (I1<J1) then
      bif decide (J1<G1) then
       (self (K1,I1,J1,G1,H1,L1,())).bind fun r43=>
       some (r43.1,())
      else
       some (K1,())
     else
      some (K1,())
    else
     aL (γ:=(Int×Unit×Int×Int×(List (Option Nat))×(List ak)×Unit)) (
      some (.inr (Z0,A1,B1,D1,E1,F1,()))) fun (M1,N1,O1,P1,Q1,R1,_)=>
     bif decide (O1<P1) then
      bif decide (P1<M1) then
       (self (Q1,O1,P1,M1,N1,R1,())).bind fun r45=>
       some (r45.1,())
      else
       some (Q1,())
     else
      some (Q1,())
def fV (a0:List (Option Nat)) (a1:Int) (a2:Int) (a3:Int) (_a4:Unit) (_a5:List ak):Nat:=a0.length+(a1.natAbs+(a2.natAbs+(a3.natAbs+2)))
def di (a0:List (Option Nat)) (a1:Int) (a2:Int) (a3:Int) (a4:Unit) (a5:List ak):Option ((List (Option Nat))×Unit):=
 Bk (fun self x=>bC self x.1 x.2.1 x.2.2.1 x.2.2.2.1 x.2.2.2.2.1 x.2.2.2.2.2.1) (fV a0 a1 a2 a3 a4 a5) (a0,a1,a2,a3,a4,a5,())
abbrev fo:Type:=Int×Unit×Int×Int×Int×(List (Option Nat))×(List ak)×Unit
abbrev fh:Type:=(((List (Option Nat))×Unit) ⊕ (Int×Unit×Int×Int×(List (Option Nat))×(List ak)×Unit))
def eZ (x1:fo) (again:fo→Option fh):Option fh:=
 match x1 with
 | (A,B,C,D,E,F,G,_)=>
 bif decide (E≤A) then
  (cq F D E B G).bind fun r2=>
  again (A,B,C,E,w64 (E+C),r2.1,G,())
 else
  some (.inr (A,B,C,D,F,G,()))
abbrev fA:Type:=Int×Unit×Int×Int×Int×(List (Option Nat))×(List ak)×Unit
abbrev fm:Type:=((((List (Option Nat))×Unit) ⊕ ((List (Option Nat))×(List ak)×Unit)) ⊕ (Int×Unit×Int×Int×(List (Option Nat))×(List ak)×Unit))
def ff (x1:fA) (again:fA→Option fm):Option fm:=
 match x1 with
 | (A,B,C,D,E,F,G,_)=>
 bif decide (E≤A) then
  (di F D (w64 (D+C)) E B G).bind fun r2=>
  again (A,B,C,E,w64 (E+(w64 (2*C))),r2.1,G,())
 else
  some (.inr (A,B,C,D,F,G,()))
abbrev fq:Type:=Int×Unit×Int×(List (Option Nat))×(List ak)×Unit
abbrev fk:Type:=(((List (Option Nat))×Unit) ⊕ ((List (Option Nat))×(List ak)×Unit))
def fe (x1:fq) (again:fq→Option fk):Option fk:=
 match x1 with
 | (A,B,C,D,E,_)=>
 bif decide (C<A) then
  aL (
   iter (X:=fA) (β:=fm) (A.natAbs+(C.natAbs+(Int.natAbs (0:Int)+(Int.natAbs (w64 (2*C))+(D.length+2))))) (A,B,C,0,w64 (2*C),D,E,()) (ff)) fun (F,G,H,I,J,K,_)=>
  bif decide ((w64 (I+H))<F) then
   (di J I (w64 (I+H)) F G K).bind fun r3=>
   again (F,G,w64 (H*2),r3.1,K,())
  else
   again (F,G,w64 (H*2),J,K,())
 else
  some (.inr (D,E,()))
def iP (a0:List (Option Nat)) (a1:Int) (a2:Unit) (a3:List ak):Option ((List (Option Nat))×Unit):=
 aL (
  iter (X:=fo) (β:=fh) (a1.natAbs+(Int.natAbs (20:Int)+(Int.natAbs (0:Int)+(Int.natAbs (20:Int)+(a0.length+2))))) (a1,a2,20,0,20,a0,a3,()) (eZ)) fun (A,B,C,D,E,F,_)=>
 (cq E D A B F).bind fun r4=>
 aL (
  iter (X:=fq) (β:=fk) (A.natAbs+(C.natAbs+(r4.1.length+2))) (A,B,C,r4.1,F,()) (fe)) fun v10=>
 some (v10.1,())
def dA (a0:List (Option Nat)) (a1:Unit) (a2:List ak):Option ((List (Option Nat))×Unit):=
 (iP a0 ((a0.length:Int)) a1 a2).bind fun r1=>
 some (r1.1,())
abbrev gv:Type:=Int×(List (Option Nat))×Int×Int×Bys×Bys×Bys×Int×Int×(List aO)×(List aa)×Int×(List ah)×(List au)×(List (Option Nat))×(List (Int×(Option Nat)))×(List ak)×Unit
abbrev jg:Type:=(((List (Option Nat))×(aj×(List aa)×(List (Int×(Option Nat)))×(List ah)×(List au)×Int×Unit)×(List ak)×Unit) ⊕ ((List (Option Nat))×Bys×Bys×Bys×Int×Int×(List aO)×(List aa)×Int×(List ah)×(List au)×(List (Int×(Option Nat)))×(List ak)×Unit))
def jf (x1:gv) (again:gv→Option jg):Option jg:=
 match x1 with
 | (A,B,C,D,E,F,G,H,I,J,K,L,M,N,O,P,Q,_)=>
 bif decide (D<C) then
  chk (decide (0≤D)&&decide (D<(O.length:Int))) <|
  (O[D.toNat]?).bind fun y2=>
  (
   Option.bind (gw y2 Q) fun r3=>
   bif decide (r3.1>0) then
    Option.bind (y2) fun h4=>
    Option.bind (Q[h4]?) fun y5=>
    some (decide (y5.2.2.2.2.2.2.2.2.1≤A),())
   else
    some (false,())).bind fun v6=>
  bif v6.1 then
   chk (decide (((B.length)+1)*8≤140737488355328)&&decide ((B.length)+1≤maxLen)) <|
   again (A,B++[y2],C,w64 (D+1),E,F,G,H,I,J,K,L,M,N,O,P,Q,())
  else
   again (A,B,C,w64 (D+1),E,F,G,H,I,J,K,L,M,N,O,P,Q,())
 else
  some (.inr (B,E,F,G,H,I,J,K,L,M,N,P,Q,()))
def iy (a0:aj×(List aa)×(List (Int×(Option Nat)))×(List ah)×(List au)×Int×Unit) (a1:Int) (a2:List ak):Option ((List (Option Nat))×(aj×(List aa)×(List (Int×(Option Nat)))×(List ah)×(List au)×Int×Unit)×(List ak)×Unit):=
 (lN (a0.1,a0.2.1,a0.2.2.1,a0.2.2.2.1,a0.2.2.2.2.1,a0.2.2.2.2.2.1,())).bind fun r1=>
 aL (
  iter (X:=gv) (β:=jg) (a1.natAbs+(List.length ([]:List (Option Nat))+(Int.natAbs ((r1.1.length:Int))+(Int.natAbs (0:Int)+(r1.2.1.1.1.length+(r1.2.1.1.2.1.length+(r1.2.1.1.2.2.1.length+(r1.2.1.1.2.2.2.1.natAbs+(r1.2.1.1.2.2.2.2.1.natAbs+(r1.2.1.1.2.2.2.2.2.length+(r1.2.1.2.1.length+(r1.2.1.2.2.2.2.2.1.natAbs+(r1.2.1.2.2.2.1.length+(r1.2.1.2.2.2.2.1.length+(r1.1.length+(r1.2.1.2.2.1.length+(a2.length+2))))))))))))))))) (a1,[],(r1.1.length:Int),0,r1.2.1.1.1,r1.2.1.1.2.1,r1.2.1.1.2.2.1,r1.2.1.1.2.2.2.1,r1.2.1.1.2.2.2.2.1,r1.2.1.1.2.2.2.2.2,r1.2.1.2.1,r1.2.1.2.2.2.2.2.1,r1.2.1.2.2.2.1,r1.2.1.2.2.2.2.1,r1.1,r1.2.1.2.2.1,a2,()) (jf)) fun (A,B,C,D,E,F,G,H,I,J,K,L,M,_)=>
 (dA A () M).bind fun r9=>
 some (r9.1,((B,C,D,E,F,G),H,L,J,K,I,()),M,())
abbrev s8:Type:=(List cg)×Int×Int×(List (Option Nat))×(List ak)×Unit
abbrev xk:Type:=(((List cg)×Int×Unit) ⊕ ((List cg)×(List ak)×Unit))
def xh (x1:s8) (again:s8→Option xk):Option xk:=
 match x1 with
 | (A,B,C,D,E,_)=>
 bif decide (C<B) then
  chk (decide (0≤C)&&decide (C<(D.length:Int))) <|
  (D[C.toNat]?).bind fun y2=>
  (y2).bind fun h3=>
  (E[h3]?).bind fun y4=>
  (gw y2 E).bind fun r5=>
  (kJ r5.1).bind fun r6=>
  (y2).bind fun h7=>
  (E[h7]?).bind fun y8=>
  chk (decide (((A.length)+1)*32≤140737488355328)&&decide ((A.length)+1≤maxLen)) <|
  again (A++[(y4.1,r6.1,y8.2.2.2.2.2.2.2.2.1)],B,w64 (C+1),D,E,())
 else
  some (.inr (A,E,()))
def Cg (a0:aj) (a1:List aa) (a2:Int):Option ((List cg)×Int×Unit):=
 NH (xm a0 a1 a2 []) (fun r1=>
  bif r1.2.1 != 0 then
   some ([],r1.2.1,())
  else
   none) (
  (Bh a0 a1 a2 []).bind fun r2=>
  bif r2.2.1 != 0 then
   some ([],r2.2.1,())
  else
   (iy (r2.1.1,r2.1.2.1,r2.1.2.2.1,r2.1.2.2.2.1,r2.1.2.2.2.2.1,r2.1.2.2.2.2.2.1,()) a2 r2.2.2.1).bind fun r3=>
   aL (
    iter (X:=s8) (β:=xk) (List.length ([]:List cg)+(Int.natAbs ((r3.1.length:Int))+(Int.natAbs (0:Int)+(r3.1.length+(r3.2.2.1.length+2))))) ([],(r3.1.length:Int),0,r3.1,r3.2.2.1,()) (xh)) fun v12=>
   some (v12.1,0,()))
abbrev jS:Type:=(List bJ)×Int×Int×(List (br×Bool))×Unit
abbrev jR:Type:=((Int×Unit) ⊕ Unit)
def ic (x1:jS) (again:jS→Option jR):Option jR:=
 bif decide (x1.2.2.1<x1.2.1) then
  (idx x1.1 x1.2.2.1).bind fun y2=>
  (fP y2.1).bind fun r3=>
  bif !r3.1 then
   some (.inl (5,()))
  else
   (fP y2.2.1).bind fun r4=>
   bif !r4.1 then
    some (.inl (5,()))
   else
    (ia y2.2.2 true).bind fun r5=>
    bif r5.1 != 0 then
     some (.inl (r5.1,()))
    else
     bif Option.getD (α:=Bool) (bA (k:=aM) (v:= .bool) x1.2.2.2.1 (y2.1,y2.2.1)) false then
      some (.inl (7,()))
     else
      again (x1.1,x1.2.1,w64 (x1.2.2.1+1),jH (k:=aM) (v:= .bool) x1.2.2.2.1 (y2.1,y2.2.1) true,())
 else
  some (.inr ())
def ni (a0:List bJ):Option (Int×Unit):=
 bif decide (((a0.length:Int))>500) then
  some (2,())
 else
  aL (
   iter (X:=jS) (β:=jR) (a0.length+(Int.natAbs ((a0.length:Int))+(Int.natAbs (0:Int)+(List.length ([]:List (br×Bool))+2)))) (a0,(a0.length:Int),0,[],()) (ic)) fun _=>
  some (0,())
abbrev nR:Type:=Int×(List bJ)×Int×Int×Bys×Bys×Bys×Int×Int×(List aO)×(List aa)×Int×(List ah)×(List au)×(List (br×Int))×(List (Int×(Option Nat)))×(List ak)×Unit
abbrev vz:Type:=(((List cg)×Int×Unit) ⊕ (Int×Bys×Bys×Bys×Int×Int×(List aO)×(List aa)×Int×(List ah)×(List au)×(List (br×Int))×(List (Int×(Option Nat)))×(List ak)×Unit))
def vw (x1:nR) (again:nR→Option vz):Option vz:=
 match x1 with
 | (A,B,C,D,E,F,G,H,I,J,K,L,M,N,O,P,Q,_)=>
 bif decide (D<C) then
  (idx B D).bind fun y2=>
  (gM y2.2.2).bind fun r3=>
  again (A,B,C,w64 (D+1),E,F,G,H,I,J,K,L,M,N,jH (k:=aM) (v:=tI) O (y2.1,y2.2.1) r3.1,P,Q,())
 else
  some (.inr (A,E,F,G,H,I,J,K,L,M,N,O,P,Q,()))
abbrev pO:Type:=(List cg)×Int×Int×(List (Option Nat))×(List (br×Int))×(List ak)×Unit
abbrev uh:Type:=(((List cg)×Int×Unit) ⊕ ((List cg)×(List ak)×Unit))
def mU (x1:pO) (again:pO→Option uh):Option uh:=
 match x1 with
 | (A,B,C,D,E,F,_)=>
 bif decide (C<B) then
  chk (decide (0≤C)&&decide (C<(D.length:Int))) <|
  (D[C.toNat]?).bind fun y2=>
  (y2).bind fun h3=>
  (F[h3]?).bind fun y4=>
  (y2).bind fun h5=>
  (F[h5]?).bind fun y6=>
  (gw y2 F).bind fun r7=>
  bif decide ((if r7.1<(Option.getD (α:=Int) (bA (k:=aM) (v:=tI) E (y4.2.1,y6.2.2.1)) 0) then r7.1 else (Option.getD (α:=Int) (bA (k:=aM) (v:=tI) E (y4.2.1,y6.2.2.1)) 0))>0) then
   let n8:Int:=w64 ((Option.getD (α:=Int) (bA (k:=aM) (v:=tI) E (y4.2.1,y6.2.2.1)) 0) - (if r7.1<(Option.getD (α:=Int) (bA (k:=aM) (v:=tI) E (y4.2.1,y6.2.2.1)) 0) then r7.1 else (Option.getD (α:=Int) (bA (k:=aM) (v:=tI) E (y4.2.1,y6.2.2.1)) 0)))
   (y2).bind fun h9=>
   (F[h9]?).bind fun y10=>
   (kJ (if r7.1<(Option.getD (α:=Int) (bA (k:=aM) (v:=tI) E (y4.2.1,y6.2.2.1)) 0) then r7.1 else (Option.getD (α:=Int) (bA (k:=aM) (v:=tI) E (y4.2.1,y6.2.2.1)) 0))).bind fun r11=>
   (y2).bind fun h12=>
   (F[h12]?).bind fun y13=>
   chk (decide (((A.length)+1)*32≤140737488355328)&&decide ((A.length)+1≤maxLen)) <|
   again (A++[(y10.1,r11.1,y13.2.2.2.2.2.2.2.2.1)],B,w64 (C+1),D,jH (k:=aM) (v:=tI) E (y4.2.1,y6.2.2.1) n8,F,())
  else
   again (A,B,w64 (C+1),D,E,F,())
 else
  some (.inr (A,F,()))
def Ab (a0:aj) (a1:List aa) (a2:Int) (a3:List bJ):Option ((List cg)×Int×Unit):=
 NH (xm a0 a1 a2 []) (fun r1=>
  bif r1.2.1 != 0 then
   some ([],r1.2.1,())
  else
   (ni a3).bind fun r2=>
   bif r2.1 != 0 then
    some ([],r2.1,())
   else
    none) (
  (Bh a0 a1 a2 []).bind fun r3=>
  bif r3.2.1 != 0 then
   some ([],r3.2.1,())
  else
   (ni a3).bind fun r4=>
   bif r4.1 != 0 then
    some ([],r4.1,())
   else
    aL (
     iter (X:=nR) (β:=vz) (a2.natAbs+(a3.length+(Int.natAbs ((a3.length:Int))+(Int.natAbs (0:Int)+(r3.1.1.1.length+(r3.1.1.2.1.length+(r3.1.1.2.2.1.length+(r3.1.1.2.2.2.1.natAbs+(r3.1.1.2.2.2.2.1.natAbs+(r3.1.1.2.2.2.2.2.length+(r3.1.2.1.length+(r3.1.2.2.2.2.2.1.natAbs+(r3.1.2.2.2.1.length+(r3.1.2.2.2.2.1.length+(List.length ([]:List (br×Int))+(r3.1.2.2.1.length+(r3.2.2.1.length+2))))))))))))))))) (a2,a3,(a3.length:Int),0,r3.1.1.1,r3.1.1.2.1,r3.1.1.2.2.1,r3.1.1.2.2.2.1,r3.1.1.2.2.2.2.1,r3.1.1.2.2.2.2.2,r3.1.2.1,r3.1.2.2.2.2.2.1,r3.1.2.2.2.1,r3.1.2.2.2.2.1,[],r3.1.2.2.1,r3.2.2.1,()) (vw)) fun (A,B,C,D,E,F,G,H,I,J,K,L,M,N,_)=>
    (iy ((B,C,D,E,F,G),H,M,J,K,I,()) A N).bind fun r9=>
    aL (
     iter (X:=pO) (β:=uh) (List.length ([]:List cg)+(Int.natAbs ((r9.1.length:Int))+(Int.natAbs (0:Int)+(r9.1.length+(L.length+(r9.2.2.1.length+2)))))) ([],(r9.1.length:Int),0,r9.1,L,r9.2.2.1,()) (mU)) fun v23=>
    some (v23.1,0,()))
abbrev gT:Type:=(List aa)×(List cg)×Int×Int×Bys×Bys×Bys×Int×Int×(List aO)×Unit
abbrev gR:Type:=((Bool×Unit) ⊕ Unit)
def fF (x1:gT) (again:gT→Option gR):Option gR:=
 match x1 with
 | (A,B,C,D,E,F,G,H,I,J,_)=>
 bif decide (D<C) then
  (idx B D).bind fun y2=>
  (yB (E,F,G,H,I,J) A (3652059,2,0,9,y2.1,[],y2.2.1,[],(0,0),0,0)).bind fun r3=>
  bif r3.2.1==2 then
   some (.inl (true,()))
  else
   bif r3.2.1==16 then
    some (.inl (true,()))
   else
    bif r3.2.1==8 then
     some (.inl (true,()))
    else
     bif r3.2.1==1 then
      some (.inl (true,()))
     else
      bif r3.2.1 != 0 then
       some (.inl (false,()))
      else
       again (r3.1,B,C,w64 (D+1),E,F,G,H,I,J,())
 else
  some (.inr ())
def je (a0:aj) (a1:List aa) (a2:List bJ):Option (Bool×Unit):=
 (Ab a0 a1 3652059 a2).bind fun r1=>
 bif r1.2.1 != 0 then
  (
   bif ((r1.1.length:Int))==0 then
    Option.bind (A8) fun r2=>
    some (r2.1,())
   else
    some (false,())).bind fun v3=>
  some (v3.1,())
 else
  (Cg a0 a1 3652059).bind fun r4=>
  bif r4.2.1 != 0 then
   some (false,())
  else
   bif decide (((r1.1.length:Int))>((r4.1.length:Int))) then
    some (false,())
   else
    (A8).bind fun r5=>
    bif !r5.1 then
     some (false,())
    else
     aL (
      iter (X:=gT) (β:=gR) (a1.length+(r1.1.length+(Int.natAbs ((r1.1.length:Int))+(Int.natAbs (0:Int)+(a0.1.length+(a0.2.1.length+(a0.2.2.1.length+(a0.2.2.2.1.natAbs+(a0.2.2.2.2.1.natAbs+(a0.2.2.2.2.2.length+2)))))))))) (a1,r1.1,(r1.1.length:Int),0,a0.1,a0.2.1,a0.2.2.1,a0.2.2.2.1,a0.2.2.2.2.1,a0.2.2.2.2.2,()) (fF)) fun _=>
     some (true,())
end Go.Md
end
