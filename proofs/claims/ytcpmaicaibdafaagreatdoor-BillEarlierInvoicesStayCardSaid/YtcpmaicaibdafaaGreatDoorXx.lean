/-
  The plain models of the functions that the law reaches, fourth part. No condition.
-/
import Derived.Test.YtcpmaicaibdafaaGreatDoorXo
import Derived.Test.YtcpmaicaibdafaaGreatDoorXd
set_option linter.all false
noncomputable section
namespace Go.Md
open Go.Dn
abbrev slices_Sort_int (l:List Int):Option (List Int×Unit):=ZE l
noncomputable section
abbrev fJ:Type:=aF×Int×Int×(List aJ)
def S8 (a0:Int) (a1:Int):Option (Int×Unit):=
 chk (a1 != (0:Int)) <|
 bif decide ((Int.tmod a0 a1)<0) then
  some (w64 ((Int.tmod a0 a1)+a1),())
 else
  some (Int.tmod a0 a1,())
abbrev iT:Type:=(List (Option Nat))×Int×Int×Bys×Bys×Bys×Int×Int×(List aY)×(List aa)×Int×(List Int)×(List ah)×(List aJ)×(List (Int×(Option Nat)))×Unit
abbrev lS:Type:=(((List (Option Nat))×(ai×(List aa)×(List (Int×(Option Nat)))×(List ah)×(List aJ)×Int×Unit)×Unit) ⊕ ((List (Option Nat))×Bys×Bys×Bys×Int×Int×(List aY)×(List aa)×Int×(List ah)×(List aJ)×(List (Int×(Option Nat)))×Unit))
def lR (x1:iT) (again:iT→Option lS):Option lS:=
 match x1 with
 | (A,B,C,D,E,F,G,H,I,J,K,L,M,N,O,_)=>
 bif decide (C<B) then
  chk (decide (0≤C)&&decide (C<(L.length:Int))) <|
  (L[C.toNat]?).bind fun y2=>
  chk (decide (((A.length)+1)*8≤140737488355328)&&decide ((A.length)+1≤maxLen)) <|
  again (A++[(Option.getD (α:=Option Nat) (bR (k:=tI) (v:= .hnd) O y2) none)],B,w64 (C+1),D,E,F,G,H,I,J,K,L,M,N,O,())
 else
  some (.inr (A,D,E,F,G,H,I,J,K,M,N,O,()))
def ot (a0:ai×(List aa)×(List (Int×(Option Nat)))×(List ah)×(List aJ)×Int×Unit):Option ((List (Option Nat))×(ai×(List aa)×(List (Int×(Option Nat)))×(List ah)×(List aJ)×Int×Unit)×Unit):=
 chk (KX a0.2.2.1) <|
 aM (
  iter (X:=iT) (β:=lS) (List.length ([]:List (Option Nat))+(Int.natAbs ((List.length (xA a0.2.2.1):Int))+(Int.natAbs (0:Int)+(a0.1.1.length+(a0.1.2.1.length+(a0.1.2.2.1.length+(a0.1.2.2.2.1.natAbs+(a0.1.2.2.2.2.1.natAbs+(a0.1.2.2.2.2.2.length+(a0.2.1.length+(a0.2.2.2.2.2.1.natAbs+(List.length ((xA a0.2.2.1):List Int)+(a0.2.2.2.1.length+(a0.2.2.2.2.1.length+(a0.2.2.1.length+2))))))))))))))) ([],(List.length (xA a0.2.2.1):Int),0,a0.1.1,a0.1.2.1,a0.1.2.2.1,a0.1.2.2.2.1,a0.1.2.2.2.2.1,a0.1.2.2.2.2.2,a0.2.1,a0.2.2.2.2.2.1,xA a0.2.2.1,a0.2.2.2.1,a0.2.2.2.2.1,a0.2.2.1,()) (lR)) fun (A,B,C,D,E,F,G,H,I,J,K,L,_)=>
 some (A,((B,C,D,E,F,G),H,L,J,K,I,()),())
abbrev pW:Type:=(List aF)×Int×Int×(List (Option Nat))×(List aU)×Unit
abbrev uh:Type:=(((List aF)×Int×Unit) ⊕ ((List aF)×(List aU)×Unit))
def ug (x1:pW) (again:pW→Option uh):Option uh:=
 match x1 with
 | (A,B,C,D,E,_)=>
 bif decide (C<B) then
  chk (decide (0≤C)&&decide (C<(D.length:Int))) <|
  (D[C.toNat]?).bind fun y2=>
  (mO y2 E).bind fun r3=>
  chk (decide (((A.length)+1)*144≤140737488355328)&&decide ((A.length)+1≤maxLen)) <|
  again (A++[r3.1],B,w64 (C+1),D,E,())
 else
  some (.inr (A,E,()))
def zb (a0:ai) (a1:List aa) (a2:Int):Option ((List aF)×Int×Unit):=
 OY (Ed a0 a1 a2 []) (fun r1=>
  bif r1.2.1 != 0 then
   some ([],r1.2.1,())
  else
   none) (
  (IZ a0 a1 a2 []).bind fun r2=>
  bif r2.2.1 != 0 then
   some ([],r2.2.1,())
  else
   (ot (r2.1.1,r2.1.2.1,r2.1.2.2.1,r2.1.2.2.2.1,r2.1.2.2.2.2.1,r2.1.2.2.2.2.2.1,())).bind fun r3=>
   aM (
    iter (X:=pW) (β:=uh) (List.length ([]:List aF)+(Int.natAbs ((r3.1.length:Int))+(Int.natAbs (0:Int)+(r3.1.length+(r2.2.2.1.length+2))))) ([],(r3.1.length:Int),0,r3.1,r2.2.2.1,()) (ug)) fun v7=>
   some (v7.1,0,()))
end
end Go.Md
namespace Go.Md
open Go.Dn
end Go.Md
namespace Go.Md
open Go.Dn
end Go.Md
set_option linter.all false
namespace Go.Md
open Go.Dn
abbrev ay:Ty:=(.st (.pair tI tI))
abbrev aW:Type:=Int×Int
abbrev fm:Ty:=(.st (.pair tI (.pair tI tI)))
abbrev bK:Type:=Int×Int×Int
def mD (a0:aW):Option (Int×Unit):=
 (bB a0.1 0 1000).bind fun r1=>
 bif r1.1 then
  some (1,())
 else
  (bB a0.2 0 1000).bind fun r2=>
  bif r2.1 then
   some (1,())
  else
   some (0,())
abbrev qR:Type:=(List aa)×(List aj)×(List aj)×Int×Int×Bys×Bys×Bys×Int×Int×(List aY)×Int×Int×Unit
abbrev qQ:Type:=(((ai×(List aa)×aW×(List aj)×(List (Int×(List aF)))×(List (Int×aG))×(List bK)×Unit)×Int×Unit) ⊕ ((List aa)×(List aj)×Bys×Bys×Bys×Int×Int×(List aY)×Int×Int×Unit))
def nw (x1:qR) (again:qR→Option qQ):Option qQ:=
 match x1 with
 | (A,B,C,D,E,F,G,H,I,J,K,L,M,_)=>
 bif decide (E<D) then
  (idx C E).bind fun y2=>
  (oC y2).bind fun r3=>
  bif r3.1 != 0 then
   none
  else
   (
    bif decide (E>0) then
     Option.bind (idx B (w64 (E - 1))) fun y4=>
     some (decide (y2.2.2.1<y4.2.2.1),())
    else
     some (false,())).bind fun v5=>
   bif v5.1 then
    none
   else
    again (A,B,C,D,w64 (E+1),F,G,H,I,J,K,L,M,())
 else
  some (.inr (A,B,F,G,H,I,J,K,L,M,()))
def xg (a0:ai) (a1:List aa) (a2:aW) (a3:List aj):Option ((ai×(List aa)×aW×(List aj)×(List (Int×(List aF)))×(List (Int×aG))×(List bK)×Unit)×Int×Unit):=
 (mN a0).bind fun r1=>
 bif r1.1 != 0 then
  none
 else
  (mM a1).bind fun r2=>
  bif r2.1 != 0 then
   none
  else
   (mD a2).bind fun r3=>
   bif r3.1 != 0 then
    none
   else
    bif decide (((a3.length:Int))>200) then
     none
    else
     aM (
      iter (X:=qR) (β:=qQ) (a1.length+(a3.length+(a3.length+(Int.natAbs ((a3.length:Int))+(Int.natAbs (0:Int)+(a0.1.length+(a0.2.1.length+(a0.2.2.1.length+(a0.2.2.2.1.natAbs+(a0.2.2.2.2.1.natAbs+(a0.2.2.2.2.2.length+(a2.1.natAbs+(a2.2.natAbs+2))))))))))))) (a1,a3,a3,(a3.length:Int),0,a0.1,a0.2.1,a0.2.2.1,a0.2.2.2.1,a0.2.2.2.2.1,a0.2.2.2.2.2,a2.1,a2.2,()) (nw)) fun (A,B,C,D,E,F,G,H,I,J,_)=>
     some (((C,D,E,F,G,H),A,(I,J),B,[],[],[],()),0,())
abbrev oT:Type:=(List aa)×(List aj)×(List aj)×Int×Int×Bys×Bys×Bys×Int×Int×(List aY)×Int×Int×Unit
abbrev oS:Type:=(((Option Nat)×Int×Unit) ⊕ ((List aa)×(List aj)×Bys×Bys×Bys×Int×Int×(List aY)×Int×Int×Unit))
def lG (x1:oT) (again:oT→Option oS):Option oS:=
 match x1 with
 | (A,B,C,D,E,F,G,H,I,J,K,L,M,_)=>
 bif decide (E<D) then
  (idx C E).bind fun y2=>
  (oC y2).bind fun r3=>
  bif r3.1 != 0 then
   some (.inl (none,r3.1,()))
  else
   (
    bif decide (E>0) then
     Option.bind (idx B (w64 (E - 1))) fun y4=>
     some (decide (y2.2.2.1<y4.2.2.1),())
    else
     some (false,())).bind fun v5=>
   bif v5.1 then
    some (.inl (none,8,()))
   else
    again (A,B,C,D,w64 (E+1),F,G,H,I,J,K,L,M,())
 else
  some (.inr (A,B,F,G,H,I,J,K,L,M,()))
def tU (a0:ai) (a1:List aa) (a2:aW) (a3:List aj):Option ((Option Nat)×Int×Unit):=
 (mN a0).bind fun r1=>
 bif r1.1 != 0 then
  some (none,r1.1,())
 else
  (mM a1).bind fun r2=>
  bif r2.1 != 0 then
   some (none,r2.1,())
  else
   (mD a2).bind fun r3=>
   bif r3.1 != 0 then
    some (none,r3.1,())
   else
    bif decide (((a3.length:Int))>200) then
     some (none,2,())
    else
     aM (
      iter (X:=oT) (β:=oS) (a1.length+(a3.length+(a3.length+(Int.natAbs ((a3.length:Int))+(Int.natAbs (0:Int)+(a0.1.length+(a0.2.1.length+(a0.2.2.1.length+(a0.2.2.2.1.natAbs+(a0.2.2.2.2.1.natAbs+(a0.2.2.2.2.2.length+(a2.1.natAbs+(a2.2.natAbs+2))))))))))))) (a1,a3,a3,(a3.length:Int),0,a0.1,a0.2.1,a0.2.2.1,a0.2.2.2.1,a0.2.2.2.2.1,a0.2.2.2.2.2,a2.1,a2.2,()) (lG)) fun _=>
     none
def gV (a0:Int) (a1:Int) (a2:ai×(List aa)×aW×(List aj)×(List (Int×(List aF)))×(List (Int×aG))×(List bK)×Unit) (a3:Int×Unit):Option ((ai×(List aa)×aW×(List aj)×(List (Int×(List aF)))×(List (Int×aG))×(List bK)×Unit)×(Int×Unit)×Unit):=
 chk (decide (((a2.2.2.2.2.2.2.1.length)+1)*24≤140737488355328)&&decide ((a2.2.2.2.2.2.2.1.length)+1≤maxLen)) <|
 some ((a2.1,a2.2.1,a2.2.2.1,a2.2.2.2.1,a2.2.2.2.2.1,a2.2.2.2.2.2.1,a2.2.2.2.2.2.2.1++[(a3.1,a0,a1)],()),(a3.1,()),())
def rK (a0:aj) (a1:aj):Option (Bool×Unit):=
 some (a0.1==a1.1,())
abbrev eE:Type:=(List aj)×aj×Int×Int×Unit
abbrev eD:Type:=((Int×Unit) ⊕ Unit)
def eC (x1:eE) (again:eE→Option eD):Option eD:=
 match x1 with
 | (A,B,C,D,_)=>
 bif decide (D<C) then
  (idx A D).bind fun y2=>
  (rK y2 B).bind fun r3=>
  bif r3.1 then
   some (.inl (D,()))
  else
   again (A,B,C,w64 (D+1),())
 else
  some (.inr ())
def mQ (a0:List aj) (a1:aj):Option (Int×Unit):=
 aM (
  iter (X:=eE) (β:=eD) (a0.length+(Int.natAbs ((a0.length:Int))+(Int.natAbs (0:Int)+2))) (a0,a1,(a0.length:Int),0,()) (eC)) fun _=>
 some ((-1),())
def gR (a0:List aj) (a1:aj):Option (Bool×Unit):=
 (mQ a0 a1).bind fun r1=>
 some (decide (r1.1≥0),())
def nX (a0:ai×(List aa)×aW×(List aj)×(List (Int×(List aF)))×(List (Int×aG))×(List bK)×Unit) (a1:Int):Option ((List aF)×(ai×(List aa)×aW×(List aj)×(List (Int×(List aF)))×(List (Int×aG))×(List bK)×Unit)×Unit):=
 bif !(Option.isSome (bR (k:=tI) (v:=(.slice b8)) a0.2.2.2.2.1 a1)) then
  (zb a0.1 a0.2.1 a1).bind fun r1=>
  some (r1.1,(a0.1,a0.2.1,a0.2.2.1,a0.2.2.2.1,lP (k:=tI) (v:=(.slice b8)) a0.2.2.2.2.1 a1 r1.1,a0.2.2.2.2.2.1,a0.2.2.2.2.2.2.1,()),())
 else
  some (Option.getD (α:=List aF) (bR (k:=tI) (v:=(.slice b8)) a0.2.2.2.2.1 a1) [],(a0.1,a0.2.1,a0.2.2.1,a0.2.2.2.1,a0.2.2.2.2.1,a0.2.2.2.2.2.1,a0.2.2.2.2.2.2.1,()),())
def ve (a0:aF) (a1:aT):Option (Bool×Unit):=
 some (a0.1==a1.2.1,())
abbrev iO:Type:=(List aF)×aT×Int×Int×Unit
abbrev iN:Type:=((Int×Unit) ⊕ Unit)
def fR (x1:iO) (again:iO→Option iN):Option iN:=
 match x1 with
 | (A,B,C,D,_)=>
 bif decide (D<C) then
  (idx A D).bind fun y2=>
  (ve y2 B).bind fun r3=>
  bif r3.1 then
   some (.inl (D,()))
  else
   again (A,B,C,w64 (D+1),())
 else
  some (.inr ())
def kg (a0:List aF) (a1:aT):Option (Int×Unit):=
 aM (
  iter (X:=iO) (β:=iN) (a0.length+(Int.natAbs ((a0.length:Int))+(Int.natAbs (0:Int)+2))) (a0,a1,(a0.length:Int),0,()) (fR)) fun _=>
 some ((-1),())
def Cy (a0:aG) (a1:Int):Option (aG×Unit):=
 (mV (w64 (1000+a1))).bind fun r1=>
 (iJ a0 r1.1).bind fun r2=>
 some (r2.1,())
def F5 (a0:aF):Option (aG×Unit):=
 (lF a0.2.2.2.2.2.2.2.1).bind fun r1=>
 (lF a0.2.2.2.2.2.2.2.2.1).bind fun r2=>
 (tw r1.1 r2.1).bind fun r3=>
 some (r3.1,())
def sd (a0:ai×(List aa)×aW×(List aj)×(List (Int×(List aF)))×(List (Int×aG))×(List bK)×Unit) (a1:Int) (a2:aT):Option (Int×(ai×(List aa)×aW×(List aj)×(List (Int×(List aF)))×(List (Int×aG))×(List bK)×Unit)×Unit):=
 (nX (a0.1,a0.2.1,a0.2.2.1,a0.2.2.2.1,a0.2.2.2.2.1,a0.2.2.2.2.2.1,a0.2.2.2.2.2.2.1,()) a1).bind fun r1=>
 (kg r1.1 a2).bind fun r2=>
 bif decide (r2.1<0) then
  some (3,(r1.2.1.1,r1.2.1.2.1,r1.2.1.2.2.1,r1.2.1.2.2.2.1,r1.2.1.2.2.2.2.1,r1.2.1.2.2.2.2.2.1,r1.2.1.2.2.2.2.2.2.1,()),())
 else
  (idx r1.1 r2.1).bind fun y3=>
  bif !(y3.2.1==a2.2.2.1) then
   some (4,(r1.2.1.1,r1.2.1.2.1,r1.2.1.2.2.1,r1.2.1.2.2.2.1,r1.2.1.2.2.2.2.1,r1.2.1.2.2.2.2.2.1,r1.2.1.2.2.2.2.2.2.1,()),())
  else
   bif !(y3.2.2.1==a2.2.2.2.2.1) then
    some (4,(r1.2.1.1,r1.2.1.2.1,r1.2.1.2.2.1,r1.2.1.2.2.2.1,r1.2.1.2.2.2.2.1,r1.2.1.2.2.2.2.2.1,r1.2.1.2.2.2.2.2.2.1,()),())
   else
    (lF a2.2.2.2.2.2.1).bind fun r4=>
    (mV 1000).bind fun r5=>
    (iJ r4.1 r5.1).bind fun r6=>
    (lF y3.2.2.2.2.1).bind fun r7=>
    (Cy r7.1 r1.2.1.2.2.1.1).bind fun r8=>
    (mV a2.2.2.2.2.2.2.1).bind fun r9=>
    (iJ r8.1 r9.1).bind fun r10=>
    (oO r6.1 r10.1).bind fun r11=>
    bif decide (r11.1>0) then
     some (5,(r1.2.1.1,r1.2.1.2.1,r1.2.1.2.2.1,r1.2.1.2.2.2.1,r1.2.1.2.2.2.2.1,r1.2.1.2.2.2.2.2.1,r1.2.1.2.2.2.2.2.2.1,()),())
    else
     (lF a2.2.2.2.1).bind fun r12=>
     (pN (Option.getD (α:=aG) (bR (k:=tI) (v:=aX) r1.2.1.2.2.2.2.2.1 a2.2.1) (false,[])) r12.1).bind fun r13=>
     (kZ r13.1).bind fun r14=>
     bif decide (r14.1<0) then
      some (6,(r1.2.1.1,r1.2.1.2.1,r1.2.1.2.2.1,r1.2.1.2.2.2.1,r1.2.1.2.2.2.2.1,r1.2.1.2.2.2.2.2.1,r1.2.1.2.2.2.2.2.2.1,()),())
     else
      (mV 1000).bind fun r15=>
      (iJ r13.1 r15.1).bind fun r16=>
      (F5 y3).bind fun r17=>
      (Cy r17.1 r1.2.1.2.2.1.2).bind fun r18=>
      (oO r16.1 r18.1).bind fun r19=>
      bif decide (r19.1>0) then
       some (6,(r1.2.1.1,r1.2.1.2.1,r1.2.1.2.2.1,r1.2.1.2.2.2.1,r1.2.1.2.2.2.2.1,r1.2.1.2.2.2.2.2.1,r1.2.1.2.2.2.2.2.2.1,()),())
      else
       some (0,(r1.2.1.1,r1.2.1.2.1,r1.2.1.2.2.1,r1.2.1.2.2.2.1,r1.2.1.2.2.2.2.1,r1.2.1.2.2.2.2.2.1,r1.2.1.2.2.2.2.2.2.1,()),())
abbrev mw:Type:=(List aT)×Int×Int×Int×Bys×Bys×Int×Int×Int×Bool×(List bD)×(List aT)×(List ew)×Bys×Bys×Bys×Int×Int×(List aY)×(List aa)×Int×Int×(List aj)×(List (Int×(List aF)))×(List (Int×aG))×(List bK)×Unit
abbrev mu:Type:=(((ai×(List aa)×aW×(List aj)×(List (Int×(List aF)))×(List (Int×aG))×(List bK)×Unit)×Unit) ⊕ (Bys×Bys×Bys×Int×Int×(List aY)×(List aa)×Int×Int×(List aj)×(List (Int×(List aF)))×(List (Int×aG))×(List bK)×Unit))
def jt (x1:mw) (again:mw→Option mu):Option mu:=
 match x1 with
 | (A,B,C,D,E,F,G,H,I,J,K,L,M,N,O,P,Q,R,S,T,U,V,W,X,Y,Z,_)=>
 bif decide (C<B) then
  (idx A C).bind fun y2=>
  (sd ((N,O,P,Q,R,S),T,(U,V),W,X,Y,Z,()) G y2).bind fun r3=>
  bif r3.1 != 0 then
   (gV C r3.1 (r3.2.1.1,r3.2.1.2.1,r3.2.1.2.2.1,r3.2.1.2.2.2.1,r3.2.1.2.2.2.2.1,r3.2.1.2.2.2.2.2.1,r3.2.1.2.2.2.2.2.2.1,()) (D,())).bind fun r4=>
   again (A,B,w64 (C+1),r4.2.1.1,E,F,G,H,I,J,K,L,M,r4.1.1.1,r4.1.1.2.1,r4.1.1.2.2.1,r4.1.1.2.2.2.1,r4.1.1.2.2.2.2.1,r4.1.1.2.2.2.2.2,r4.1.2.1,r4.1.2.2.1.1,r4.1.2.2.1.2,r4.1.2.2.2.1,r4.1.2.2.2.2.1,r4.1.2.2.2.2.2.1,r4.1.2.2.2.2.2.2.1,())
  else
   (lF y2.2.2.2.1).bind fun r5=>
   (pN (Option.getD (α:=aG) (bR (k:=tI) (v:=aX) r3.2.1.2.2.2.2.2.1 y2.2.1) (false,[])) r5.1).bind fun r6=>
   again (A,B,w64 (C+1),D,E,F,G,H,I,J,K,L,M,r3.2.1.1.1,r3.2.1.1.2.1,r3.2.1.1.2.2.1,r3.2.1.1.2.2.2.1,r3.2.1.1.2.2.2.2.1,r3.2.1.1.2.2.2.2.2,r3.2.1.2.1,r3.2.1.2.2.1.1,r3.2.1.2.2.1.2,r3.2.1.2.2.2.1,r3.2.1.2.2.2.2.1,lP (k:=tI) (v:=aX) r3.2.1.2.2.2.2.2.1 y2.2.1 r6.1,r3.2.1.2.2.2.2.2.2.1,())
 else
  some (.inr (N,O,P,Q,R,S,T,U,V,W,X,Y,Z,()))
def lH (a0:ai×(List aa)×aW×(List aj)×(List (Int×(List aF)))×(List (Int×aG))×(List bK)×Unit) (a1:Int):Option ((ai×(List aa)×aW×(List aj)×(List (Int×(List aF)))×(List (Int×aG))×(List bK)×Unit)×Unit):=
 (idx a0.2.2.2.1 a1).bind fun y1=>
 bif !(y1.2.1==a0.1.1) then
  (gV (-1) 1 (a0.1,a0.2.1,a0.2.2.1,a0.2.2.2.1,a0.2.2.2.2.1,a0.2.2.2.2.2.1,a0.2.2.2.2.2.2.1,()) (a1,())).bind fun r2=>
  some ((r2.1.1,r2.1.2.1,r2.1.2.2.1,r2.1.2.2.2.1,r2.1.2.2.2.2.1,r2.1.2.2.2.2.2.1,r2.1.2.2.2.2.2.2.1,()),())
 else
  chk (decide (0≤(0:Int))&&decide ((0:Int)≤a1)&&decide (a1≤(a0.2.2.2.1.length:Int))) <|
  (gR (List.drop 0 (List.take (Int.toNat a1) a0.2.2.2.1)) y1).bind fun r3=>
  bif r3.1 then
   (gV (-1) 2 (a0.1,a0.2.1,a0.2.2.1,a0.2.2.2.1,a0.2.2.2.2.1,a0.2.2.2.2.2.1,a0.2.2.2.2.2.2.1,()) (a1,())).bind fun r4=>
   some ((r4.1.1,r4.1.2.1,r4.1.2.2.1,r4.1.2.2.2.1,r4.1.2.2.2.2.1,r4.1.2.2.2.2.2.1,r4.1.2.2.2.2.2.2.1,()),())
  else
   aM (
    iter (X:=mw) (β:=mu) (y1.2.2.2.2.2.2.2.1.length+(Int.natAbs ((y1.2.2.2.2.2.2.2.1.length:Int))+(Int.natAbs (0:Int)+(a1.natAbs+(y1.1.length+(y1.2.1.length+(y1.2.2.1.natAbs+(y1.2.2.2.1.natAbs+(y1.2.2.2.2.1.natAbs+(y1.2.2.2.2.2.2.1.length+(y1.2.2.2.2.2.2.2.1.length+(y1.2.2.2.2.2.2.2.2.length+(a0.1.1.length+(a0.1.2.1.length+(a0.1.2.2.1.length+(a0.1.2.2.2.1.natAbs+(a0.1.2.2.2.2.1.natAbs+(a0.1.2.2.2.2.2.length+(a0.2.1.length+(a0.2.2.1.1.natAbs+(a0.2.2.1.2.natAbs+(a0.2.2.2.1.length+(a0.2.2.2.2.1.length+(a0.2.2.2.2.2.1.length+(a0.2.2.2.2.2.2.1.length+2))))))))))))))))))))))))) (y1.2.2.2.2.2.2.2.1,(y1.2.2.2.2.2.2.2.1.length:Int),0,a1,y1.1,y1.2.1,y1.2.2.1,y1.2.2.2.1,y1.2.2.2.2.1,y1.2.2.2.2.2.1,y1.2.2.2.2.2.2.1,y1.2.2.2.2.2.2.2.1,y1.2.2.2.2.2.2.2.2,a0.1.1,a0.1.2.1,a0.1.2.2.1,a0.1.2.2.2.1,a0.1.2.2.2.2.1,a0.1.2.2.2.2.2,a0.2.1,a0.2.2.1.1,a0.2.2.1.2,a0.2.2.2.1,a0.2.2.2.2.1,a0.2.2.2.2.2.1,a0.2.2.2.2.2.2.1,()) (jt)) fun (A,B,C,D,E,F,G,H,I,J,K,L,M,_)=>
   some (((A,B,C,D,E,F),G,(H,I),J,K,L,M,()),())
abbrev yP:Type:=Int×Int×Bys×Bys×Bys×Int×Int×(List aY)×(List aa)×Int×Int×(List aj)×(List (Int×(List aF)))×(List (Int×aG))×(List bK)×Unit
abbrev yO:Type:=(((List bK)×Int×Unit) ⊕ (Bys×Bys×Bys×Int×Int×(List aY)×(List aa)×Int×Int×(List aj)×(List (Int×(List aF)))×(List (Int×aG))×(List bK)×Unit))
def uC (x1:yP) (again:yP→Option yO):Option yO:=
 match x1 with
 | (A,B,C,D,E,F,G,H,I,J,K,L,M,N,O,_)=>
 bif decide (B<A) then
  (lH ((C,D,E,F,G,H),I,(J,K),L,M,N,O,()) B).bind fun r2=>
  again (A,w64 (B+1),r2.1.1.1,r2.1.1.2.1,r2.1.1.2.2.1,r2.1.1.2.2.2.1,r2.1.1.2.2.2.2.1,r2.1.1.2.2.2.2.2,r2.1.2.1,r2.1.2.2.1.1,r2.1.2.2.1.2,r2.1.2.2.2.1,r2.1.2.2.2.2.1,r2.1.2.2.2.2.2.1,r2.1.2.2.2.2.2.2.1,())
 else
  some (.inr (C,D,E,F,G,H,I,J,K,L,M,N,O,()))
def AB (a0:ai) (a1:List aa) (a2:aW) (a3:List aj):Option ((List bK)×Int×Unit):=
 OY (tU a0 a1 a2 a3) (fun r1=>
  bif r1.2.1 != 0 then
   some ([],r1.2.1,())
  else
   none) (
  (xg a0 a1 a2 a3).bind fun r2=>
  bif r2.2.1 != 0 then
   some ([],r2.2.1,())
  else
   aM (
    iter (X:=yP) (β:=yO) (Int.natAbs ((a3.length:Int))+(Int.natAbs (0:Int)+(r2.1.1.1.length+(r2.1.1.2.1.length+(r2.1.1.2.2.1.length+(r2.1.1.2.2.2.1.natAbs+(r2.1.1.2.2.2.2.1.natAbs+(r2.1.1.2.2.2.2.2.length+(r2.1.2.1.length+(r2.1.2.2.1.1.natAbs+(r2.1.2.2.1.2.natAbs+(r2.1.2.2.2.1.length+(r2.1.2.2.2.2.1.length+(r2.1.2.2.2.2.2.1.length+(r2.1.2.2.2.2.2.2.1.length+2))))))))))))))) ((a3.length:Int),0,r2.1.1.1,r2.1.1.2.1,r2.1.1.2.2.1,r2.1.1.2.2.2.1,r2.1.1.2.2.2.2.1,r2.1.1.2.2.2.2.2,r2.1.2.1,r2.1.2.2.1.1,r2.1.2.2.1.2,r2.1.2.2.2.1,r2.1.2.2.2.2.1,r2.1.2.2.2.2.2.1,r2.1.2.2.2.2.2.2.1,()) (uC)) fun v5=>
   some (v5.2.2.2.2.2.2.2.2.2.2.2.2.1,0,()))
def Lw (a0:Int) (a1:Int):Option (Int×Unit):=
 chk (a1 != (0:Int)) <|
 bif decide ((Int.tmod a0 a1)<0) then
  some (w64 ((Int.tmod a0 a1)+a1),())
 else
  some (Int.tmod a0 a1,())
abbrev gy:Type:=(List bK)×(List bK)×Int×Int×Unit
abbrev jj:Type:=((Bool×Unit) ⊕ Unit)
def ji (x1:gy) (again:gy→Option jj):Option jj:=
 match x1 with
 | (A,B,C,D,_)=>
 bif decide (D<C) then
  (idx A D).bind fun y2=>
  (idx B D).bind fun y3=>
  bif !((y2.1==y3.1)&&((y2.2.1==y3.2.1)&&((y2.2.2==y3.2.2)&&true))) then
   some (.inl (false,()))
  else
   again (A,B,C,w64 (D+1),())
 else
  some (.inr ())
def lu (a0:List bK) (a1:List bK):Option (Bool×Unit):=
 bif ((a0.length:Int)) != ((a1.length:Int)) then
  some (false,())
 else
  aM (
   iter (X:=gy) (β:=jj) (a0.length+(a1.length+(Int.natAbs ((a0.length:Int))+(Int.natAbs (0:Int)+2)))) (a0,a1,(a0.length:Int),0,()) (ji)) fun _=>
  some (true,())
abbrev fB:Type:=Int×(List bK)×Int×Int×Unit
abbrev iC:Type:=((Bool×Unit) ⊕ Unit)
def iB (x1:fB) (again:fB→Option iC):Option iC:=
 bif decide (x1.2.2.2.1<x1.2.2.1) then
  (idx x1.2.1 x1.2.2.2.1).bind fun y2=>
  bif decide (y2.1<x1.1) then
   some (.inl (false,()))
  else
   again (x1.1,x1.2.1,x1.2.2.1,w64 (x1.2.2.2.1+1),())
 else
  some (.inr ())
def jA (a0:ai) (a1:List aa) (a2:aW) (a3:List aj) (a4:Int):Option (Bool×Unit):=
 (AB a0 a1 a2 a3).bind fun r1=>
 bif r1.2.1 != 0 then
  (
   bif ((r1.1.length:Int))==0 then
    Option.bind (CW) fun r2=>
    some (r2.1,())
   else
    some (false,())).bind fun v3=>
  some (v3.1,())
 else
  (Lw a4 (w64 (((a3.length:Int))+1))).bind fun r4=>
  chk (decide (0≤(0:Int))&&decide ((0:Int)≤r4.1)&&decide (r4.1≤(a3.length:Int))) <|
  (AB a0 a1 a2 (List.drop 0 (List.take (Int.toNat r4.1) a3))).bind fun r5=>
  bif r5.2.1 != 0 then
   some (false,())
  else
   bif decide (((r5.1.length:Int))>((r1.1.length:Int))) then
    some (false,())
   else
    chk (decide (0≤(0:Int))&&decide ((0:Int)≤((r5.1.length:Int)))&&decide (((r5.1.length:Int))≤(r1.1.length:Int))) <|
    (lu r5.1 (List.drop 0 (List.take (Int.toNat ((r5.1.length:Int))) r1.1))).bind fun r6=>
    bif !r6.1 then
     some (false,())
    else
     (CW).bind fun r7=>
     bif !r7.1 then
      some (false,())
     else
      chk (decide (0≤((r5.1.length:Int)))&&decide (((r5.1.length:Int))≤((r1.1.length:Int)))&&decide (((r1.1.length:Int))≤(r1.1.length:Int))) <|
      aM (
       iter (X:=fB) (β:=iC) (r4.1.natAbs+(List.length (List.drop (Int.toNat ((r5.1.length:Int))) (List.take (Int.toNat ((r1.1.length:Int))) r1.1))+(Int.natAbs ((List.length (List.drop (Int.toNat ((r5.1.length:Int))) (List.take (Int.toNat ((r1.1.length:Int))) r1.1)):Int))+(Int.natAbs (0:Int)+2)))) (r4.1,List.drop (Int.toNat ((r5.1.length:Int))) (List.take (Int.toNat ((r1.1.length:Int))) r1.1),(List.length (List.drop (Int.toNat ((r5.1.length:Int))) (List.take (Int.toNat ((r1.1.length:Int))) r1.1)):Int),0,()) (iB)) fun _=>
      some (true,())
end Go.Md
end
