/-
  The plain models of the functions that the laws reach, fourth part. No condition.
-/
import Derived.Test.YtcpmaicaibdafaaGreatDoorYo
import Derived.Test.YtcpmaicaibdafaaGreatDoorYd
set_option linter.all false
noncomputable section
namespace Go.Md
open Go.Dn
abbrev slices_Sort_int (l:List Int):Option (List Int×Unit):=Xp l
noncomputable section
abbrev ef:Type:=ax×Int×Int×(List aH)
abbrev gm:Type:=(List (Option Nat))×Int×Int×Bys×Bys×Bys×Int×Int×(List aQ)×(List aa)×Int×(List Int)×(List ah)×(List aH)×(List (Int×(Option Nat)))×Unit
abbrev jm:Type:=(((List (Option Nat))×(ai×(List aa)×(List (Int×(Option Nat)))×(List ah)×(List aH)×Int×Unit)×Unit) ⊕ ((List (Option Nat))×Bys×Bys×Bys×Int×Int×(List aQ)×(List aa)×Int×(List ah)×(List aH)×(List (Int×(Option Nat)))×Unit))
def jl (x1:gm) (again:gm→Option jm):Option jm:=
 match x1 with
 | (A,B,C,D,E,F,G,H,I,J,K,L,M,N,O,_)=>
 bif decide (C<B) then
  chk (decide (0≤C)&&decide (C<(L.length:Int))) <|
  (L[C.toNat]?).bind fun y2=>
  chk (decide (((A.length)+1)*8≤140737488355328)&&decide ((A.length)+1≤maxLen)) <|
  again (A++[(Option.getD (α:=Option Nat) (bM (k:=tI) (v:= .hnd) O y2) none)],B,w64 (C+1),D,E,F,G,H,I,J,K,L,M,N,O,())
 else
  some (.inr (A,D,E,F,G,H,I,J,K,M,N,O,()))
def lJ (a0:ai×(List aa)×(List (Int×(Option Nat)))×(List ah)×(List aH)×Int×Unit):Option ((List (Option Nat))×(ai×(List aa)×(List (Int×(Option Nat)))×(List ah)×(List aH)×Int×Unit)×Unit):=
 chk (Io a0.2.2.1) <|
 aK (
  iter (X:=gm) (β:=jm) (List.length ([]:List (Option Nat))+(Int.natAbs ((List.length (uX a0.2.2.1):Int))+(Int.natAbs (0:Int)+(a0.1.1.length+(a0.1.2.1.length+(a0.1.2.2.1.length+(a0.1.2.2.2.1.natAbs+(a0.1.2.2.2.2.1.natAbs+(a0.1.2.2.2.2.2.length+(a0.2.1.length+(a0.2.2.2.2.2.1.natAbs+(List.length ((uX a0.2.2.1):List Int)+(a0.2.2.2.1.length+(a0.2.2.2.2.1.length+(a0.2.2.1.length+2))))))))))))))) ([],(List.length (uX a0.2.2.1):Int),0,a0.1.1,a0.1.2.1,a0.1.2.2.1,a0.1.2.2.2.1,a0.1.2.2.2.2.1,a0.1.2.2.2.2.2,a0.2.1,a0.2.2.2.2.2.1,uX a0.2.2.1,a0.2.2.2.1,a0.2.2.2.2.1,a0.2.2.1,()) (jl)) fun (A,B,C,D,E,F,G,H,I,J,K,L,_)=>
 some (A,((B,C,D,E,F,G),H,L,J,K,I,()),())
abbrev mZ:Type:=(List ax)×Int×Int×(List (Option Nat))×(List aW)×Unit
abbrev ri:Type:=(((List ax)×Int×Unit) ⊕ ((List ax)×(List aW)×Unit))
def rf (x1:mZ) (again:mZ→Option ri):Option ri:=
 match x1 with
 | (A,B,C,D,E,_)=>
 bif decide (C<B) then
  chk (decide (0≤C)&&decide (C<(D.length:Int))) <|
  (D[C.toNat]?).bind fun y2=>
  (ki y2 E).bind fun r3=>
  chk (decide (((A.length)+1)*144≤140737488355328)&&decide ((A.length)+1≤maxLen)) <|
  again (A++[r3.1],B,w64 (C+1),D,E,())
 else
  some (.inr (A,E,()))
def rU (a0:ai) (a1:List aa) (a2:Int):Option ((List ax)×Int×Unit):=
 Jn (Bh a0 a1 a2 []) (fun r1=>
  bif r1.2.1 != 0 then
   some ([],r1.2.1,())
  else
   none) (
  (FT a0 a1 a2 []).bind fun r2=>
  bif r2.2.1 != 0 then
   some ([],r2.2.1,())
  else
   (lJ (r2.1.1,r2.1.2.1,r2.1.2.2.1,r2.1.2.2.2.1,r2.1.2.2.2.2.1,r2.1.2.2.2.2.2.1,())).bind fun r3=>
   aK (
    iter (X:=mZ) (β:=ri) (List.length ([]:List ax)+(Int.natAbs ((r3.1.length:Int))+(Int.natAbs (0:Int)+(r3.1.length+(r2.2.2.1.length+2))))) ([],(r3.1.length:Int),0,r3.1,r2.2.2.1,()) (rf)) fun v7=>
   some (v7.1,0,()))
end
end Go.Md
namespace Go.Md
open Go.Dn
end Go.Md
namespace Go.Md
open Go.Dn
end Go.Md
set_option linter.all false
namespace Go.Md
open Go.Dn
abbrev aA:Ty:=(.st (.pair tI tI))
abbrev aX:Type:=Int×Int
abbrev gH:Ty:=(.st (.pair tI (.pair tI tI)))
abbrev bG:Type:=Int×Int×Int
def jP (a0:aX):Option (Int×Unit):=
 (bD a0.1 0 1000).bind fun r1=>
 bif r1.1 then
  some (1,())
 else
  (bD a0.2 0 1000).bind fun r2=>
  bif r2.1 then
   some (1,())
  else
   some (0,())
abbrev nZ:Type:=(List aa)×(List aj)×(List aj)×Int×Int×Bys×Bys×Bys×Int×Int×(List aQ)×Int×Int×Unit
abbrev nY:Type:=(((ai×(List aa)×aX×(List aj)×(List (Int×(List ax)))×(List (Int×aF))×(List bG)×Unit)×Int×Unit) ⊕ ((List aa)×(List aj)×Bys×Bys×Bys×Int×Int×(List aQ)×Int×Int×Unit))
def kS (x1:nZ) (again:nZ→Option nY):Option nY:=
 match x1 with
 | (A,B,C,D,E,F,G,H,I,J,K,L,M,_)=>
 bif decide (E<D) then
  (idx C E).bind fun y2=>
  (gL y2).bind fun r3=>
  bif r3.1 != 0 then
   none
  else
   (
    bif decide (E>0) then
     Option.bind (idx B (w64 (E - 1))) fun y4=>
     some (decide (y2.2.2.1<y4.2.2.1),())
    else
     some (false,())).bind fun v5=>
   bif v5.1 then
    none
   else
    again (A,B,C,D,w64 (E+1),F,G,H,I,J,K,L,M,())
 else
  some (.inr (A,B,F,G,H,I,J,K,L,M,()))
def p9 (a0:ai) (a1:List aa) (a2:aX) (a3:List aj):Option ((ai×(List aa)×aX×(List aj)×(List (Int×(List ax)))×(List (Int×aF))×(List bG)×Unit)×Int×Unit):=
 (iL a0).bind fun r1=>
 bif r1.1 != 0 then
  none
 else
  (kg a1).bind fun r2=>
  bif r2.1 != 0 then
   none
  else
   (jP a2).bind fun r3=>
   bif r3.1 != 0 then
    none
   else
    bif decide (((a3.length:Int))>200) then
     none
    else
     aK (
      iter (X:=nZ) (β:=nY) (a1.length+(a3.length+(a3.length+(Int.natAbs ((a3.length:Int))+(Int.natAbs (0:Int)+(a0.1.length+(a0.2.1.length+(a0.2.2.1.length+(a0.2.2.2.1.natAbs+(a0.2.2.2.2.1.natAbs+(a0.2.2.2.2.2.length+(a2.1.natAbs+(a2.2.natAbs+2))))))))))))) (a1,a3,a3,(a3.length:Int),0,a0.1,a0.2.1,a0.2.2.1,a0.2.2.2.1,a0.2.2.2.2.1,a0.2.2.2.2.2,a2.1,a2.2,()) (kS)) fun (A,B,C,D,E,F,G,H,I,J,_)=>
     some (((C,D,E,F,G,H),A,(I,J),B,[],[],[],()),0,())
abbrev mo:Type:=(List aa)×(List aj)×(List aj)×Int×Int×Bys×Bys×Bys×Int×Int×(List aQ)×Int×Int×Unit
abbrev mm:Type:=(((Option Nat)×Int×Unit) ⊕ ((List aa)×(List aj)×Bys×Bys×Bys×Int×Int×(List aQ)×Int×Int×Unit))
def jc (x1:mo) (again:mo→Option mm):Option mm:=
 match x1 with
 | (A,B,C,D,E,F,G,H,I,J,K,L,M,_)=>
 bif decide (E<D) then
  (idx C E).bind fun y2=>
  (gL y2).bind fun r3=>
  bif r3.1 != 0 then
   some (.inl (none,r3.1,()))
  else
   (
    bif decide (E>0) then
     Option.bind (idx B (w64 (E - 1))) fun y4=>
     some (decide (y2.2.2.1<y4.2.2.1),())
    else
     some (false,())).bind fun v5=>
   bif v5.1 then
    some (.inl (none,8,()))
   else
    again (A,B,C,D,w64 (E+1),F,G,H,I,J,K,L,M,())
 else
  some (.inr (A,B,F,G,H,I,J,K,L,M,()))
def mS (a0:ai) (a1:List aa) (a2:aX) (a3:List aj):Option ((Option Nat)×Int×Unit):=
 (iL a0).bind fun r1=>
 bif r1.1 != 0 then
  some (none,r1.1,())
 else
  (kg a1).bind fun r2=>
  bif r2.1 != 0 then
   some (none,r2.1,())
  else
   (jP a2).bind fun r3=>
   bif r3.1 != 0 then
    some (none,r3.1,())
   else
    bif decide (((a3.length:Int))>200) then
     some (none,2,())
    else
     aK (
      iter (X:=mo) (β:=mm) (a1.length+(a3.length+(a3.length+(Int.natAbs ((a3.length:Int))+(Int.natAbs (0:Int)+(a0.1.length+(a0.2.1.length+(a0.2.2.1.length+(a0.2.2.2.1.natAbs+(a0.2.2.2.2.1.natAbs+(a0.2.2.2.2.2.length+(a2.1.natAbs+(a2.2.natAbs+2))))))))))))) (a1,a3,a3,(a3.length:Int),0,a0.1,a0.2.1,a0.2.2.1,a0.2.2.2.1,a0.2.2.2.2.1,a0.2.2.2.2.2,a2.1,a2.2,()) (jc)) fun _=>
     none
def fB (a0:Int) (a1:Int) (a2:ai×(List aa)×aX×(List aj)×(List (Int×(List ax)))×(List (Int×aF))×(List bG)×Unit) (a3:Int×Unit):Option ((ai×(List aa)×aX×(List aj)×(List (Int×(List ax)))×(List (Int×aF))×(List bG)×Unit)×(Int×Unit)×Unit):=
 chk (decide (((a2.2.2.2.2.2.2.1.length)+1)*24≤140737488355328)&&decide ((a2.2.2.2.2.2.2.1.length)+1≤maxLen)) <|
 some ((a2.1,a2.2.1,a2.2.2.1,a2.2.2.2.1,a2.2.2.2.2.1,a2.2.2.2.2.2.1,a2.2.2.2.2.2.2.1++[(a3.1,a0,a1)],()),(a3.1,()),())
def oT (a0:aj) (a1:aj):Option (Bool×Unit):=
 some (a0.1==a1.1,())
abbrev dJ:Type:=(List aj)×aj×Int×Int×Unit
abbrev dI:Type:=((Int×Unit) ⊕ Unit)
def dH (x1:dJ) (again:dJ→Option dI):Option dI:=
 match x1 with
 | (A,B,C,D,_)=>
 bif decide (D<C) then
  (idx A D).bind fun y2=>
  (oT y2 B).bind fun r3=>
  bif r3.1 then
   some (.inl (D,()))
  else
   again (A,B,C,w64 (D+1),())
 else
  some (.inr ())
def ku (a0:List aj) (a1:aj):Option (Int×Unit):=
 aK (
  iter (X:=dJ) (β:=dI) (a0.length+(Int.natAbs ((a0.length:Int))+(Int.natAbs (0:Int)+2))) (a0,a1,(a0.length:Int),0,()) (dH)) fun _=>
 some ((-1),())
def fq (a0:List aj) (a1:aj):Option (Bool×Unit):=
 (ku a0 a1).bind fun r1=>
 some (decide (r1.1≥0),())
def iO (a0:ai×(List aa)×aX×(List aj)×(List (Int×(List ax)))×(List (Int×aF))×(List bG)×Unit) (a1:Int):Option ((List ax)×(ai×(List aa)×aX×(List aj)×(List (Int×(List ax)))×(List (Int×aF))×(List bG)×Unit)×Unit):=
 bif !(Option.isSome (bM (k:=tI) (v:=(.slice bH)) a0.2.2.2.2.1 a1)) then
  (rU a0.1 a0.2.1 a1).bind fun r1=>
  some (r1.1,(a0.1,a0.2.1,a0.2.2.1,a0.2.2.2.1,jY (k:=tI) (v:=(.slice bH)) a0.2.2.2.2.1 a1 r1.1,a0.2.2.2.2.2.1,a0.2.2.2.2.2.2.1,()),())
 else
  some (Option.getD (α:=List ax) (bM (k:=tI) (v:=(.slice bH)) a0.2.2.2.2.1 a1) [],(a0.1,a0.2.1,a0.2.2.1,a0.2.2.2.1,a0.2.2.2.2.1,a0.2.2.2.2.2.1,a0.2.2.2.2.2.2.1,()),())
def sC (a0:ax) (a1:aD):Option (Bool×Unit):=
 some (a0.1==a1.2.1,())
abbrev gd:Type:=(List ax)×aD×Int×Int×Unit
abbrev fZ:Type:=((Int×Unit) ⊕ Unit)
def eC (x1:gd) (again:gd→Option fZ):Option fZ:=
 match x1 with
 | (A,B,C,D,_)=>
 bif decide (D<C) then
  (idx A D).bind fun y2=>
  (sC y2 B).bind fun r3=>
  bif r3.1 then
   some (.inl (D,()))
  else
   again (A,B,C,w64 (D+1),())
 else
  some (.inr ())
def iE (a0:List ax) (a1:aD):Option (Int×Unit):=
 aK (
  iter (X:=gd) (β:=fZ) (a0.length+(Int.natAbs ((a0.length:Int))+(Int.natAbs (0:Int)+2))) (a0,a1,(a0.length:Int),0,()) (eC)) fun _=>
 some ((-1),())
def zS (a0:aF) (a1:Int):Option (aF×Unit):=
 (kE (w64 (1000+a1))).bind fun r1=>
 (fM a0 r1.1).bind fun r2=>
 some (r2.1,())
def xA (a0:ax):Option (aF×Unit):=
 (jb a0.2.2.2.2.2.2.2.1).bind fun r1=>
 (jb a0.2.2.2.2.2.2.2.2.1).bind fun r2=>
 (mP r1.1 r2.1).bind fun r3=>
 some (r3.1,())
def pQ (a0:ai×(List aa)×aX×(List aj)×(List (Int×(List ax)))×(List (Int×aF))×(List bG)×Unit) (a1:Int) (a2:aD):Option (Int×(ai×(List aa)×aX×(List aj)×(List (Int×(List ax)))×(List (Int×aF))×(List bG)×Unit)×Unit):=
 (iO (a0.1,a0.2.1,a0.2.2.1,a0.2.2.2.1,a0.2.2.2.2.1,a0.2.2.2.2.2.1,a0.2.2.2.2.2.2.1,()) a1).bind fun r1=>
 (iE r1.1 a2).bind fun r2=>
 bif decide (r2.1<0) then
  some (3,(r1.2.1.1,r1.2.1.2.1,r1.2.1.2.2.1,r1.2.1.2.2.2.1,r1.2.1.2.2.2.2.1,r1.2.1.2.2.2.2.2.1,r1.2.1.2.2.2.2.2.2.1,()),())
 else
  (idx r1.1 r2.1).bind fun y3=>
  bif !(y3.2.1==a2.2.2.1) then
   some (4,(r1.2.1.1,r1.2.1.2.1,r1.2.1.2.2.1,r1.2.1.2.2.2.1,r1.2.1.2.2.2.2.1,r1.2.1.2.2.2.2.2.1,r1.2.1.2.2.2.2.2.2.1,()),())
  else
   bif !(y3.2.2.1==a2.2.2.2.2.1) then
    some (4,(r1.2.1.1,r1.2.1.2.1,r1.2.1.2.2.1,r1.2.1.2.2.2.1,r1.2.1.2.2.2.2.1,r1.2.1.2.2.2.2.2.1,r1.2.1.2.2.2.2.2.2.1,()),())
   else
    (jb a2.2.2.2.2.2.1).bind fun r4=>
    (kE 1000).bind fun r5=>
    (fM r4.1 r5.1).bind fun r6=>
    (jb y3.2.2.2.2.1).bind fun r7=>
    (zS r7.1 r1.2.1.2.2.1.1).bind fun r8=>
    (kE a2.2.2.2.2.2.2.1).bind fun r9=>
    (fM r8.1 r9.1).bind fun r10=>
    (me r6.1 r10.1).bind fun r11=>
    bif decide (r11.1>0) then
     some (5,(r1.2.1.1,r1.2.1.2.1,r1.2.1.2.2.1,r1.2.1.2.2.2.1,r1.2.1.2.2.2.2.1,r1.2.1.2.2.2.2.2.1,r1.2.1.2.2.2.2.2.2.1,()),())
    else
     (jb a2.2.2.2.1).bind fun r12=>
     (mQ (Option.getD (α:=aF) (bM (k:=tI) (v:=aS) r1.2.1.2.2.2.2.2.1 a2.2.1) (false,[])) r12.1).bind fun r13=>
     (fG r13.1).bind fun r14=>
     bif decide (r14.1<0) then
      some (6,(r1.2.1.1,r1.2.1.2.1,r1.2.1.2.2.1,r1.2.1.2.2.2.1,r1.2.1.2.2.2.2.1,r1.2.1.2.2.2.2.2.1,r1.2.1.2.2.2.2.2.2.1,()),())
     else
      (kE 1000).bind fun r15=>
      (fM r13.1 r15.1).bind fun r16=>
      (xA y3).bind fun r17=>
      (zS r17.1 r1.2.1.2.2.1.2).bind fun r18=>
      (me r16.1 r18.1).bind fun r19=>
      bif decide (r19.1>0) then
       some (6,(r1.2.1.1,r1.2.1.2.1,r1.2.1.2.2.1,r1.2.1.2.2.2.1,r1.2.1.2.2.2.2.1,r1.2.1.2.2.2.2.2.1,r1.2.1.2.2.2.2.2.2.1,()),())
      else
       some (0,(r1.2.1.1,r1.2.1.2.1,r1.2.1.2.2.1,r1.2.1.2.2.2.1,r1.2.1.2.2.2.2.1,r1.2.1.2.2.2.2.2.1,r1.2.1.2.2.2.2.2.2.1,()),())
abbrev jJ:Type:=(List aD)×Int×Int×Int×Bys×Bys×Int×Int×Int×Bool×(List aR)×(List aD)×(List bK)×Bys×Bys×Bys×Int×Int×(List aQ)×(List aa)×Int×Int×(List aj)×(List (Int×(List ax)))×(List (Int×aF))×(List bG)×Unit
abbrev jI:Type:=(((ai×(List aa)×aX×(List aj)×(List (Int×(List ax)))×(List (Int×aF))×(List bG)×Unit)×Unit) ⊕ (Bys×Bys×Bys×Int×Int×(List aQ)×(List aa)×Int×Int×(List aj)×(List (Int×(List ax)))×(List (Int×aF))×(List bG)×Unit))
def gK (x1:jJ) (again:jJ→Option jI):Option jI:=
 match x1 with
 | (A,B,C,D,E,F,G,H,I,J,K,L,M,N,O,P,Q,R,S,T,U,V,W,X,Y,Z,_)=>
 bif decide (C<B) then
  (idx A C).bind fun y2=>
  (pQ ((N,O,P,Q,R,S),T,(U,V),W,X,Y,Z,()) G y2).bind fun r3=>
  bif r3.1 != 0 then
   (fB C r3.1 (r3.2.1.1,r3.2.1.2.1,r3.2.1.2.2.1,r3.2.1.2.2.2.1,r3.2.1.2.2.2.2.1,r3.2.1.2.2.2.2.2.1,r3.2.1.2.2.2.2.2.2.1,()) (D,())).bind fun r4=>
   again (A,B,w64 (C+1),r4.2.1.1,E,F,G,H,I,J,K,L,M,r4.1.1.1,r4.1.1.2.1,r4.1.1.2.2.1,r4.1.1.2.2.2.1,r4.1.1.2.2.2.2.1,r4.1.1.2.2.2.2.2,r4.1.2.1,r4.1.2.2.1.1,r4.1.2.2.1.2,r4.1.2.2.2.1,r4.1.2.2.2.2.1,r4.1.2.2.2.2.2.1,r4.1.2.2.2.2.2.2.1,())
  else
   (jb y2.2.2.2.1).bind fun r5=>
   (mQ (Option.getD (α:=aF) (bM (k:=tI) (v:=aS) r3.2.1.2.2.2.2.2.1 y2.2.1) (false,[])) r5.1).bind fun r6=>
   again (A,B,w64 (C+1),D,E,F,G,H,I,J,K,L,M,r3.2.1.1.1,r3.2.1.1.2.1,r3.2.1.1.2.2.1,r3.2.1.1.2.2.2.1,r3.2.1.1.2.2.2.2.1,r3.2.1.1.2.2.2.2.2,r3.2.1.2.1,r3.2.1.2.2.1.1,r3.2.1.2.2.1.2,r3.2.1.2.2.2.1,r3.2.1.2.2.2.2.1,jY (k:=tI) (v:=aS) r3.2.1.2.2.2.2.2.1 y2.2.1 r6.1,r3.2.1.2.2.2.2.2.2.1,())
 else
  some (.inr (N,O,P,Q,R,S,T,U,V,W,X,Y,Z,()))
def ff (a0:ai×(List aa)×aX×(List aj)×(List (Int×(List ax)))×(List (Int×aF))×(List bG)×Unit) (a1:Int):Option ((ai×(List aa)×aX×(List aj)×(List (Int×(List ax)))×(List (Int×aF))×(List bG)×Unit)×Unit):=
 (idx a0.2.2.2.1 a1).bind fun y1=>
 bif !(y1.2.1==a0.1.1) then
  (fB (-1) 1 (a0.1,a0.2.1,a0.2.2.1,a0.2.2.2.1,a0.2.2.2.2.1,a0.2.2.2.2.2.1,a0.2.2.2.2.2.2.1,()) (a1,())).bind fun r2=>
  some ((r2.1.1,r2.1.2.1,r2.1.2.2.1,r2.1.2.2.2.1,r2.1.2.2.2.2.1,r2.1.2.2.2.2.2.1,r2.1.2.2.2.2.2.2.1,()),())
 else
  chk (decide (0≤(0:Int))&&decide ((0:Int)≤a1)&&decide (a1≤(a0.2.2.2.1.length:Int))) <|
  (fq (List.drop 0 (List.take (Int.toNat a1) a0.2.2.2.1)) y1).bind fun r3=>
  bif r3.1 then
   (fB (-1) 2 (a0.1,a0.2.1,a0.2.2.1,a0.2.2.2.1,a0.2.2.2.2.1,a0.2.2.2.2.2.1,a0.2.2.2.2.2.2.1,()) (a1,())).bind fun r4=>
   some ((r4.1.1,r4.1.2.1,r4.1.2.2.1,r4.1.2.2.2.1,r4.1.2.2.2.2.1,r4.1.2.2.2.2.2.1,r4.1.2.2.2.2.2.2.1,()),())
  else
   aK (
    iter (X:=jJ) (β:=jI) (y1.2.2.2.2.2.2.2.1.length+(Int.natAbs ((y1.2.2.2.2.2.2.2.1.length:Int))+(Int.natAbs (0:Int)+(a1.natAbs+(y1.1.length+(y1.2.1.length+(y1.2.2.1.natAbs+(y1.2.2.2.1.natAbs+(y1.2.2.2.2.1.natAbs+(y1.2.2.2.2.2.2.1.length+(y1.2.2.2.2.2.2.2.1.length+(y1.2.2.2.2.2.2.2.2.length+(a0.1.1.length+(a0.1.2.1.length+(a0.1.2.2.1.length+(a0.1.2.2.2.1.natAbs+(a0.1.2.2.2.2.1.natAbs+(a0.1.2.2.2.2.2.length+(a0.2.1.length+(a0.2.2.1.1.natAbs+(a0.2.2.1.2.natAbs+(a0.2.2.2.1.length+(a0.2.2.2.2.1.length+(a0.2.2.2.2.2.1.length+(a0.2.2.2.2.2.2.1.length+2))))))))))))))))))))))))) (y1.2.2.2.2.2.2.2.1,(y1.2.2.2.2.2.2.2.1.length:Int),0,a1,y1.1,y1.2.1,y1.2.2.1,y1.2.2.2.1,y1.2.2.2.2.1,y1.2.2.2.2.2.1,y1.2.2.2.2.2.2.1,y1.2.2.2.2.2.2.2.1,y1.2.2.2.2.2.2.2.2,a0.1.1,a0.1.2.1,a0.1.2.2.1,a0.1.2.2.2.1,a0.1.2.2.2.2.1,a0.1.2.2.2.2.2,a0.2.1,a0.2.2.1.1,a0.2.2.1.2,a0.2.2.2.1,a0.2.2.2.2.1,a0.2.2.2.2.2.1,a0.2.2.2.2.2.2.1,()) (gK)) fun (A,B,C,D,E,F,G,H,I,J,K,L,M,_)=>
   some (((A,B,C,D,E,F),G,(H,I),J,K,L,M,()),())
abbrev wE:Type:=Int×Int×Bys×Bys×Bys×Int×Int×(List aQ)×(List aa)×Int×Int×(List aj)×(List (Int×(List ax)))×(List (Int×aF))×(List bG)×Unit
abbrev wD:Type:=(((List bG)×Int×Unit) ⊕ (Bys×Bys×Bys×Int×Int×(List aQ)×(List aa)×Int×Int×(List aj)×(List (Int×(List ax)))×(List (Int×aF))×(List bG)×Unit))
def rN (x1:wE) (again:wE→Option wD):Option wD:=
 match x1 with
 | (A,B,C,D,E,F,G,H,I,J,K,L,M,N,O,_)=>
 bif decide (B<A) then
  (ff ((C,D,E,F,G,H),I,(J,K),L,M,N,O,()) B).bind fun r2=>
  again (A,w64 (B+1),r2.1.1.1,r2.1.1.2.1,r2.1.1.2.2.1,r2.1.1.2.2.2.1,r2.1.1.2.2.2.2.1,r2.1.1.2.2.2.2.2,r2.1.2.1,r2.1.2.2.1.1,r2.1.2.2.1.2,r2.1.2.2.2.1,r2.1.2.2.2.2.1,r2.1.2.2.2.2.2.1,r2.1.2.2.2.2.2.2.1,())
 else
  some (.inr (C,D,E,F,G,H,I,J,K,L,M,N,O,()))
def x4 (a0:ai) (a1:List aa) (a2:aX) (a3:List aj):Option ((List bG)×Int×Unit):=
 Jn (mS a0 a1 a2 a3) (fun r1=>
  bif r1.2.1 != 0 then
   some ([],r1.2.1,())
  else
   none) (
  (p9 a0 a1 a2 a3).bind fun r2=>
  bif r2.2.1 != 0 then
   some ([],r2.2.1,())
  else
   aK (
    iter (X:=wE) (β:=wD) (Int.natAbs ((a3.length:Int))+(Int.natAbs (0:Int)+(r2.1.1.1.length+(r2.1.1.2.1.length+(r2.1.1.2.2.1.length+(r2.1.1.2.2.2.1.natAbs+(r2.1.1.2.2.2.2.1.natAbs+(r2.1.1.2.2.2.2.2.length+(r2.1.2.1.length+(r2.1.2.2.1.1.natAbs+(r2.1.2.2.1.2.natAbs+(r2.1.2.2.2.1.length+(r2.1.2.2.2.2.1.length+(r2.1.2.2.2.2.2.1.length+(r2.1.2.2.2.2.2.2.1.length+2))))))))))))))) ((a3.length:Int),0,r2.1.1.1,r2.1.1.2.1,r2.1.1.2.2.1,r2.1.1.2.2.2.1,r2.1.1.2.2.2.2.1,r2.1.1.2.2.2.2.2,r2.1.2.1,r2.1.2.2.1.1,r2.1.2.2.1.2,r2.1.2.2.2.1,r2.1.2.2.2.2.1,r2.1.2.2.2.2.2.1,r2.1.2.2.2.2.2.2.1,()) (rN)) fun v5=>
   some (v5.2.2.2.2.2.2.2.2.2.2.2.2.1,0,()))
def lN (a0:List aR):Option ((List aR)×Unit):=
 bif List.isEmpty a0 then
  both (
   some ([],())) (
   chk (decide ((0+(a0.length))*32≤140737488355328)&&decide (0+(a0.length)≤maxLen)) <|
   some (a0,()))
 else
  chk (decide ((0+(a0.length))*32≤140737488355328)&&decide (0+(a0.length)≤maxLen)) <|
  some (a0,())
abbrev sR:Type:=(List ax)×Int×Int×Bys×Bys×Int×Int×Int×Bool×(List aR)×(List aD)×(List bK)×Bys×Bys×Int×Int×Int×Bool×(List aR)×(List aD)×(List bK)×Bys×Bys×Int×Int×Int×Bool×(List aD)×(List bK)×(List aR)×Unit
abbrev sQ:Type:=((aj×Int×Unit) ⊕ (Bys×Bys×Int×Int×Int×Bool×(List aR)×(List aD)×(List bK)×Bys×Bys×Int×Int×Int×Bool×(List aD)×(List bK)×(List aR)×Unit))
def nX (x1:sR) (again:sR→Option sQ):Option sQ:=
 match x1 with
 | (A,B,C,D,E,F,G,H,I,J,K,L,M,N,O,P,Q,R,S,T,U,V,W,X,Y,Z,A0,B0,C0,D0,_)=>
 bif decide (C<B) then
  (idx A C).bind fun y2=>
  (xA y2).bind fun r3=>
  (fG r3.1).bind fun r4=>
  bif decide (r4.1≤0) then
   again (A,B,w64 (C+1),D,E,F,G,H,I,J,K,L,M,N,O,P,Q,R,S,T,U,V,W,X,Y,Z,A0,B0,C0,D0,())
  else
   (jC r3.1 9).bind fun r5=>
   bif r5.2.1 != 0 then
    some (.inl (([],[],0,0,0,false,[],[],[]),r5.2.1,()))
   else
    (idx J 0).bind fun y6=>
    chk (decide (((B0.length)+1)*128≤140737488355328)&&decide ((B0.length)+1≤maxLen)) <|
    again (A,B,w64 (C+1),D,E,F,G,H,I,J,K,L,M,N,O,P,Q,R,S,T,U,V,W,X,Y,Z,A0,B0++[(w64 (((B0.length:Int))+1),y2.1,y2.2.1,r5.1,y2.2.2.1,y2.2.2.2.2.1,1,[],y6.1)],C0,D0,())
 else
  some (.inr (M,N,O,P,Q,R,S,T,U,V,W,X,Y,Z,A0,B0,C0,D0,()))
def zF (a0:ai) (a1:List aa) (a2:Bys) (a3:aj):Option (aj×Int×Unit):=
 (iL a0).bind fun r1=>
 bif r1.1 != 0 then
  some (([],[],0,0,0,false,[],[],[]),r1.1,())
 else
  (rU a0 a1 3652059).bind fun r2=>
  bif r2.2.1 != 0 then
   some (([],[],0,0,0,false,[],[],[]),r2.2.1,())
  else
   (bW a2).bind fun r3=>
   bif !r3.1 then
    some (([],[],0,0,0,false,[],[],[]),5,())
   else
    (gL a3).bind fun r4=>
    bif r4.1 != 0 then
     some (([],[],0,0,0,false,[],[],[]),r4.1,())
    else
     (lN a3.2.2.2.2.2.2.1).bind fun r5=>
     aK (
      iter (X:=sR) (β:=sQ) (r2.1.length+(Int.natAbs ((r2.1.length:Int))+(Int.natAbs (0:Int)+(a3.1.length+(a3.2.1.length+(a3.2.2.1.natAbs+(a3.2.2.2.1.natAbs+(a3.2.2.2.2.1.natAbs+(a3.2.2.2.2.2.2.1.length+(a3.2.2.2.2.2.2.2.1.length+(a3.2.2.2.2.2.2.2.2.length+(List.length ([]:Bys)+(List.length ([]:Bys)+(Int.natAbs (0:Int)+(Int.natAbs (0:Int)+(Int.natAbs (0:Int)+(List.length ([]:List aR)+(List.length ([]:List aD)+(List.length ([]:List bK)+(a2.length+(a0.1.length+(a3.2.2.1.natAbs+(a3.2.2.2.1.natAbs+(a3.2.2.2.2.1.natAbs+(List.length ([]:List aD)+(List.length ([]:List bK)+(r5.1.length+2))))))))))))))))))))))))))) (r2.1,(r2.1.length:Int),0,a3.1,a3.2.1,a3.2.2.1,a3.2.2.2.1,a3.2.2.2.2.1,a3.2.2.2.2.2.1,a3.2.2.2.2.2.2.1,a3.2.2.2.2.2.2.2.1,a3.2.2.2.2.2.2.2.2,[],[],0,0,0,false,[],[],[],a2,a0.1,a3.2.2.1,a3.2.2.2.1,a3.2.2.2.2.1,a3.2.2.2.2.2.1,[],[],r5.1,()) (nX)) fun (_,_,_,_,_,_,_,_,_,A,B,C,D,E,F,G,H,I,_)=>
     bif ((G.length:Int))==0 then
      some (([],[],0,0,0,false,[],[],[]),9,())
     else
      (gL (A,B,C,D,E,F,I,G,H)).bind fun r13=>
      bif r13.1 != 0 then
       some (([],[],0,0,0,false,[],[],[]),r13.1,())
      else
       some ((A,B,C,D,E,F,I,G,H),0,())
def zM (a0:List aa):Option (Int×Unit):=
 bif ((a0.length:Int))==0 then
  some (1,())
 else
  (idx a0 (w64 (((a0.length:Int)) - 1))).bind fun y1=>
  some (y1.1,())
abbrev qS:Type:=Int×(List aj)×Int×Int×Bys×Bys×Bys×Int×Int×(List aQ)×(List aa)×Int×Int×(List aj)×(List (Int×(List ax)))×(List (Int×aF))×(List bG)×Unit
abbrev qR:Type:=(((List qN)×Int×Unit) ⊕ (Int×Bys×Bys×Bys×Int×Int×(List aQ)×(List aa)×Int×Int×(List aj)×(List (Int×(List ax)))×(List (Int×aF))×(List bG)×Unit))
def mR (x1:qS) (again:qS→Option qR):Option qR:=
 match x1 with
 | (A,B,C,D,E,F,G,H,I,J,K,L,M,N,O,P,Q,_)=>
 bif decide (D<C) then
  (idx B D).bind fun y2=>
  bif decide (y2.2.2.1≤A) then
   (ff ((E,F,G,H,I,J),K,(L,M),N,O,P,Q,()) D).bind fun r3=>
   again (A,B,C,w64 (D+1),r3.1.1.1,r3.1.1.2.1,r3.1.1.2.2.1,r3.1.1.2.2.2.1,r3.1.1.2.2.2.2.1,r3.1.1.2.2.2.2.2,r3.1.2.1,r3.1.2.2.1.1,r3.1.2.2.1.2,r3.1.2.2.2.1,r3.1.2.2.2.2.1,r3.1.2.2.2.2.2.1,r3.1.2.2.2.2.2.2.1,())
  else
   again (A,B,C,w64 (D+1),E,F,G,H,I,J,K,L,M,N,O,P,Q,())
 else
  some (.inr (A,E,F,G,H,I,J,K,L,M,N,O,P,Q,()))
abbrev lX:Type:=(List qN)×(List ax)×Int×Int×Bys×Bys×Bys×Int×Int×(List aQ)×(List aa)×Int×Int×(List aj)×(List bG)×(List (Int×(List ax)))×(List (Int×aF))×Unit
abbrev pP:Type:=(((List qN)×Int×Unit) ⊕ ((List qN)×Unit))
def pO (x1:lX) (again:lX→Option pP):Option pP:=
 match x1 with
 | (A,B,C,D,E,F,G,H,I,J,K,L,M,N,O,P,Q,_)=>
 bif decide (D<C) then
  (idx B D).bind fun y2=>
  (xA y2).bind fun r3=>
  (mP r3.1 (Option.getD (α:=aF) (bM (k:=tI) (v:=aS) Q y2.1) (false,[]))).bind fun r4=>
  (fG r4.1).bind fun r5=>
  bif decide (r5.1≤0) then
   again (A,B,C,w64 (D+1),E,F,G,H,I,J,K,L,M,N,O,P,Q,())
  else
   (jC r4.1 9).bind fun r6=>
   bif r6.2.1 != 0 then
    some (.inl ([],r6.2.1,()))
   else
    chk (decide (((A.length)+1)*32≤140737488355328)&&decide ((A.length)+1≤maxLen)) <|
    again (A++[(y2.1,r6.1,y2.2.2.2.2.2.1)],B,C,w64 (D+1),E,F,G,H,I,J,K,L,M,N,O,P,Q,())
 else
  some (.inr (A,()))
def wF (a0:ai) (a1:List aa) (a2:aX) (a3:List aj) (a4:Int):Option ((List qN)×Int×Unit):=
 Jn (mS a0 a1 a2 a3) (fun r1=>
  bif r1.2.1 != 0 then
   some ([],r1.2.1,())
  else
   (gZ a4).bind fun r2=>
   bif !r2.1 then
    some ([],1,())
   else
    none) (
  (p9 a0 a1 a2 a3).bind fun r3=>
  bif r3.2.1 != 0 then
   some ([],r3.2.1,())
  else
   (gZ a4).bind fun r4=>
   bif !r4.1 then
    some ([],1,())
   else
    aK (
     iter (X:=qS) (β:=qR) (a4.natAbs+(a3.length+(Int.natAbs ((a3.length:Int))+(Int.natAbs (0:Int)+(r3.1.1.1.length+(r3.1.1.2.1.length+(r3.1.1.2.2.1.length+(r3.1.1.2.2.2.1.natAbs+(r3.1.1.2.2.2.2.1.natAbs+(r3.1.1.2.2.2.2.2.length+(r3.1.2.1.length+(r3.1.2.2.1.1.natAbs+(r3.1.2.2.1.2.natAbs+(r3.1.2.2.2.1.length+(r3.1.2.2.2.2.1.length+(r3.1.2.2.2.2.2.1.length+(r3.1.2.2.2.2.2.2.1.length+2))))))))))))))))) (a4,a3,(a3.length:Int),0,r3.1.1.1,r3.1.1.2.1,r3.1.1.2.2.1,r3.1.1.2.2.2.1,r3.1.1.2.2.2.2.1,r3.1.1.2.2.2.2.2,r3.1.2.1,r3.1.2.2.1.1,r3.1.2.2.1.2,r3.1.2.2.2.1,r3.1.2.2.2.2.1,r3.1.2.2.2.2.2.1,r3.1.2.2.2.2.2.2.1,()) (mR)) fun (A,B,C,D,E,F,G,H,I,J,K,L,M,N,_)=>
    (iO ((B,C,D,E,F,G),H,(I,J),K,L,M,N,()) A).bind fun r9=>
    aK (
     iter (X:=lX) (β:=pP) (List.length ([]:List qN)+(r9.1.length+(Int.natAbs ((r9.1.length:Int))+(Int.natAbs (0:Int)+(r9.2.1.1.1.length+(r9.2.1.1.2.1.length+(r9.2.1.1.2.2.1.length+(r9.2.1.1.2.2.2.1.natAbs+(r9.2.1.1.2.2.2.2.1.natAbs+(r9.2.1.1.2.2.2.2.2.length+(r9.2.1.2.1.length+(r9.2.1.2.2.1.1.natAbs+(r9.2.1.2.2.1.2.natAbs+(r9.2.1.2.2.2.1.length+(r9.2.1.2.2.2.2.2.2.1.length+(r9.2.1.2.2.2.2.1.length+(r9.2.1.2.2.2.2.2.1.length+2))))))))))))))))) ([],r9.1,(r9.1.length:Int),0,r9.2.1.1.1,r9.2.1.1.2.1,r9.2.1.1.2.2.1,r9.2.1.1.2.2.2.1,r9.2.1.1.2.2.2.2.1,r9.2.1.1.2.2.2.2.2,r9.2.1.2.1,r9.2.1.2.2.1.1,r9.2.1.2.2.1.2,r9.2.1.2.2.2.1,r9.2.1.2.2.2.2.2.2.1,r9.2.1.2.2.2.2.1,r9.2.1.2.2.2.2.2.1,()) (pO)) fun v16=>
    some (v16.1,0,()))
def lD (a0:ai) (a1:List aa) (a2:Bys) (a3:aj):Option (Bool×Unit):=
 (zF a0 a1 a2 a3).bind fun r1=>
 bif r1.2.1 != 0 then
  (
   bif ((r1.1.2.2.2.2.2.2.2.1.length:Int))==0 then
    Option.bind (Aa) fun r2=>
    some (r2.1,())
   else
    some (false,())).bind fun v3=>
  some (v3.1,())
 else
  (zM a1).bind fun r4=>
  bif decide (r1.1.2.2.1<r4.1) then
   (Aa).bind fun r5=>
   some (r5.1,())
  else
   (x4 a0 a1 (0,0) [r1.1]).bind fun r6=>
   bif r6.2.1 != 0 then
    some (false,())
   else
    bif ((r6.1.length:Int)) != 0 then
     some (false,())
    else
     (Aa).bind fun r7=>
     bif !r7.1 then
      some (false,())
     else
      (wF a0 a1 (0,0) [r1.1] 3652059).bind fun r8=>
      bif r8.2.1 != 0 then
       some (false,())
      else
       bif ((r8.1.length:Int)) != 0 then
        some (false,())
       else
        chk (decide (a2.length+List.length [50]≤maxLen)) <|
        (x4 a0 a1 (0,0) [r1.1,(a2++[50],r1.1.2)]).bind fun r9=>
        bif r9.2.1 != 0 then
         some (r9.2.1==5,())
        else
         some (((r9.1.length:Int))==((r1.1.2.2.2.2.2.2.2.1.length:Int)),())
end Go.Md
end
