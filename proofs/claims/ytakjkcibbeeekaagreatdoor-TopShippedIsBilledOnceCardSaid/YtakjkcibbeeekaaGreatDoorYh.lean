/-
  The plain models of the functions that the law reaches, a part. No condition.
-/
import Derived.Test.YtakjkcibbeeekaaGreatDoorYg
import Derived.Test.YtakjkcibbeeekaaGreatDoorYa
noncomputable section
namespace Go.Md
open Go.Dn
abbrev aY:Ty:=(.st (.pair .str (.pair .str aC)))
abbrev av:Type:=Bys×Bys×ah
def HF (a0:Option Nat) (a1:List bf):Option (Bool×Unit):=
 (mG a0 a1).bind fun r1=>
 some (decide (r1.1>0),())
abbrev iw:Type:=(List (Option Nat))×Unit×Int×Int×(List bf)×Unit
abbrev iu:Type:=((Int×Unit) ⊕ ((List bf)×Unit))
def fH (x1:iw) (again:iw->Option iu):Option iu:=
 match x1 with
 | (A,B,C,D,E,_)=>
 bif decide (D<C) then
  (idx A D).bind fun y2=>
  (HF y2 E).bind fun r3=>
  bif r3.1 then
   some (.inl (D,()))
  else
   again (A,B,C,w64 (D+1),E,())
 else
  some (.inr (E,()))
def nS (a0:List (Option Nat)) (a1:Unit) (a2:List bf):Option (Int×Unit):=
 aG (
  iter (X:=iw) (β:=iu) (a0.length+(Int.natAbs ((a0.length:Int))+(Int.natAbs (0:Int)+2))) (a0,a1,(a0.length:Int),0,a2,()) (fH)) fun _=>
 some ((-1),())
def l6 (a0:List (Option Nat)) (a1:Unit) (a2:List bf):Option (Bool×Unit):=
 (nS a0 a1 a2).bind fun r1=>
 some (decide (r1.1>=0),())
def Aj (a0:ai) (a1:List aa) (a2:Int):Option (Bool×Int×Unit):=
 Gu (Ak a0 a1 a2 []) (fun r1=>
  bif r1.2.1 != 0 then
   some (false,r1.2.1,())
  else
   none) (
  (Eg a0 a1 a2 []).bind fun r2=>
  bif r2.2.1 != 0 then
   some (false,r2.2.1,())
  else
   (lN (r2.1.1,r2.1.2.1,r2.1.2.2.1,r2.1.2.2.2.1,r2.1.2.2.2.2.1,r2.1.2.2.2.2.2.1,())).bind fun r3=>
   (l6 r3.1 () r2.2.2.1).bind fun r4=>
   some (!r4.1,0,()))
end Go.Md
set_option linter.all false
namespace Go.Md
open Go.Dn
abbrev bD:Type:=Int×Int
abbrev cO:Type:=Int×Int×Int
def nw (a0:bD):Option (Int×Unit):=
 (b8 a0.1 0 1000).bind fun r1=>
 bif r1.1 then
  some (1,())
 else
  (b8 a0.2 0 1000).bind fun r2=>
  bif r2.1 then
   some (1,())
  else
   some (0,())
abbrev sH:Type:=(List aa)×(List an)×(List an)×Int×Int×Bys×Bys×Bys×Int×Int×(List aT)×Int×Int×Unit
abbrev sG:Type:=(((ai×(List aa)×bD×(List an)×(List (Int×(List aj)))×(List (Int×au))×(List cO)×Unit)×Int×Unit) ⊕ ((List aa)×(List an)×Bys×Bys×Bys×Int×Int×(List aT)×Int×Int×Unit))
def nX (x1:sH) (again:sH->Option sG):Option sG:=
 match x1 with
 | (A,B,C,D,E,F,G,H,I,J,K,L,M,_)=>
 bif decide (E<D) then
  (idx C E).bind fun y2=>
  (iE y2).bind fun r3=>
  bif r3.1 != 0 then
   none
  else
   (
    bif decide (E>0) then
     Option.bind (idx B (w64 (E - 1))) fun y4=>
     some (decide (y2.2.2.1<y4.2.2.1),())
    else
     some (false,())).bind fun v5=>
   bif v5.1 then
    none
   else
    again (A,B,C,D,w64 (E+1),F,G,H,I,J,K,L,M,())
 else
  some (.inr (A,B,F,G,H,I,J,K,L,M,()))
def z8 (a0:ai) (a1:List aa) (a2:bD) (a3:List an):Option ((ai×(List aa)×bD×(List an)×(List (Int×(List aj)))×(List (Int×au))×(List cO)×Unit)×Int×Unit):=
 (jt a0).bind fun r1=>
 bif r1.1 != 0 then
  none
 else
  (nM a1).bind fun r2=>
  bif r2.1 != 0 then
   none
  else
   (nw a2).bind fun r3=>
   bif r3.1 != 0 then
    none
   else
    bif decide (((a3.length:Int))>200) then
     none
    else
     aG (
      iter (X:=sH) (β:=sG) (a1.length+(a3.length+(a3.length+(Int.natAbs ((a3.length:Int))+(Int.natAbs (0:Int)+(a0.1.length+(a0.2.1.length+(a0.2.2.1.length+(a0.2.2.2.1.natAbs+(a0.2.2.2.2.1.natAbs+(a0.2.2.2.2.2.length+(a2.1.natAbs+(a2.2.natAbs+2))))))))))))) (a1,a3,a3,(a3.length:Int),0,a0.1,a0.2.1,a0.2.2.1,a0.2.2.2.1,a0.2.2.2.2.1,a0.2.2.2.2.2,a2.1,a2.2,()) (nX)) fun (A,B,C,D,E,F,G,H,I,J,_)=>
     some (((C,D,E,F,G,H),A,(I,J),B,[],[],[],()),0,())
abbrev pT:Type:=(List aa)×(List an)×(List an)×Int×Int×Bys×Bys×Bys×Int×Int×(List aT)×Int×Int×Unit
abbrev pS:Type:=(((Option Nat)×Int×Unit) ⊕ ((List aa)×(List an)×Bys×Bys×Bys×Int×Int×(List aT)×Int×Int×Unit))
def mj (x1:pT) (again:pT->Option pS):Option pS:=
 match x1 with
 | (A,B,C,D,E,F,G,H,I,J,K,L,M,_)=>
 bif decide (E<D) then
  (idx C E).bind fun y2=>
  (iE y2).bind fun r3=>
  bif r3.1 != 0 then
   some (.inl (none,r3.1,()))
  else
   (
    bif decide (E>0) then
     Option.bind (idx B (w64 (E - 1))) fun y4=>
     some (decide (y2.2.2.1<y4.2.2.1),())
    else
     some (false,())).bind fun v5=>
   bif v5.1 then
    some (.inl (none,8,()))
   else
    again (A,B,C,D,w64 (E+1),F,G,H,I,J,K,L,M,())
 else
  some (.inr (A,B,F,G,H,I,J,K,L,M,()))
def wh (a0:ai) (a1:List aa) (a2:bD) (a3:List an):Option ((Option Nat)×Int×Unit):=
 (jt a0).bind fun r1=>
 bif r1.1 != 0 then
  some (none,r1.1,())
 else
  (nM a1).bind fun r2=>
  bif r2.1 != 0 then
   some (none,r2.1,())
  else
   (nw a2).bind fun r3=>
   bif r3.1 != 0 then
    some (none,r3.1,())
   else
    bif decide (((a3.length:Int))>200) then
     some (none,2,())
    else
     aG (
      iter (X:=pT) (β:=pS) (a1.length+(a3.length+(a3.length+(Int.natAbs ((a3.length:Int))+(Int.natAbs (0:Int)+(a0.1.length+(a0.2.1.length+(a0.2.2.1.length+(a0.2.2.2.1.natAbs+(a0.2.2.2.2.1.natAbs+(a0.2.2.2.2.2.length+(a2.1.natAbs+(a2.2.natAbs+2))))))))))))) (a1,a3,a3,(a3.length:Int),0,a0.1,a0.2.1,a0.2.2.1,a0.2.2.2.1,a0.2.2.2.2.1,a0.2.2.2.2.2,a2.1,a2.2,()) (mj)) fun _=>
     none
def iA (a0:Int) (a1:Int) (a2:ai×(List aa)×bD×(List an)×(List (Int×(List aj)))×(List (Int×au))×(List cO)×Unit) (a3:Int×Unit):Option ((ai×(List aa)×bD×(List an)×(List (Int×(List aj)))×(List (Int×au))×(List cO)×Unit)×(Int×Unit)×Unit):=
 chk (decide (((a2.2.2.2.2.2.2.1.length)+1)*24<=140737488355328)&&decide ((a2.2.2.2.2.2.2.1.length)+1<=maxLen)) <|
 some ((a2.1,a2.2.1,a2.2.2.1,a2.2.2.2.1,a2.2.2.2.2.1,a2.2.2.2.2.2.1,a2.2.2.2.2.2.2.1++[(a3.1,a0,a1)],()),(a3.1,()),())
def uk (a0:an) (a1:an):Option (Bool×Unit):=
 some (a0.1==a1.1,())
abbrev fG:Type:=(List an)×an×Int×Int×Unit
abbrev fF:Type:=((Int×Unit) ⊕ Unit)
def fE (x1:fG) (again:fG->Option fF):Option fF:=
 match x1 with
 | (A,B,C,D,_)=>
 bif decide (D<C) then
  (idx A D).bind fun y2=>
  (uk y2 B).bind fun r3=>
  bif r3.1 then
   some (.inl (D,()))
  else
   again (A,B,C,w64 (D+1),())
 else
  some (.inr ())
def nR (a0:List an) (a1:an):Option (Int×Unit):=
 aG (
  iter (X:=fG) (β:=fF) (a0.length+(Int.natAbs ((a0.length:Int))+(Int.natAbs (0:Int)+2))) (a0,a1,(a0.length:Int),0,()) (fE)) fun _=>
 some ((-1),())
def ir (a0:List an) (a1:an):Option (Bool×Unit):=
 (nR a0 a1).bind fun r1=>
 some (decide (r1.1>=0),())
def oC (a0:ai×(List aa)×bD×(List an)×(List (Int×(List aj)))×(List (Int×au))×(List cO)×Unit) (a1:Int):Option ((List aj)×(ai×(List aa)×bD×(List an)×(List (Int×(List aj)))×(List (Int×au))×(List cO)×Unit)×Unit):=
 bif !(Option.isSome (dN (k:=tI) (v:=(.slice aU)) a0.2.2.2.2.1 a1)) then
  (pn a0.1 a0.2.1 a1).bind fun r1=>
  some (r1.1,(a0.1,a0.2.1,a0.2.2.1,a0.2.2.2.1,jG (k:=tI) (v:=(.slice aU)) a0.2.2.2.2.1 a1 r1.1,a0.2.2.2.2.2.1,a0.2.2.2.2.2.2.1,()),())
 else
  some (Option.getD (α:=List aj) (dN (k:=tI) (v:=(.slice aU)) a0.2.2.2.2.1 a1) [],(a0.1,a0.2.1,a0.2.2.1,a0.2.2.2.1,a0.2.2.2.2.1,a0.2.2.2.2.2.1,a0.2.2.2.2.2.2.1,()),())
def xP (a0:aj) (a1:aI):Option (Bool×Unit):=
 some (a0.1==a1.2.1,())
abbrev jg:Type:=(List aj)×aI×Int×Int×Unit
abbrev jf:Type:=((Int×Unit) ⊕ Unit)
def gw (x1:jg) (again:jg->Option jf):Option jf:=
 match x1 with
 | (A,B,C,D,_)=>
 bif decide (D<C) then
  (idx A D).bind fun y2=>
  (xP y2 B).bind fun r3=>
  bif r3.1 then
   some (.inl (D,()))
  else
   again (A,B,C,w64 (D+1),())
 else
  some (.inr ())
def kU (a0:List aj) (a1:aI):Option (Int×Unit):=
 aG (
  iter (X:=jg) (β:=jf) (a0.length+(Int.natAbs ((a0.length:Int))+(Int.natAbs (0:Int)+2))) (a0,a1,(a0.length:Int),0,()) (gw)) fun _=>
 some ((-1),())
def EV (a0:au) (a1:Int):Option (au×Unit):=
 (gX (w64 (1000+a1))).bind fun r1=>
 (gT a0 r1.1).bind fun r2=>
 some (r2.1,())
def EU (a0:aj):Option (au×Unit):=
 (ew a0.2.2.2.2.2.2.2.1).bind fun r1=>
 (ew a0.2.2.2.2.2.2.2.2.1).bind fun r2=>
 (lV r1.1 r2.1).bind fun r3=>
 some (r3.1,())
def uP (a0:ai×(List aa)×bD×(List an)×(List (Int×(List aj)))×(List (Int×au))×(List cO)×Unit) (a1:Int) (a2:aI):Option (Int×(ai×(List aa)×bD×(List an)×(List (Int×(List aj)))×(List (Int×au))×(List cO)×Unit)×Unit):=
 (oC (a0.1,a0.2.1,a0.2.2.1,a0.2.2.2.1,a0.2.2.2.2.1,a0.2.2.2.2.2.1,a0.2.2.2.2.2.2.1,()) a1).bind fun r1=>
 (kU r1.1 a2).bind fun r2=>
 bif decide (r2.1<0) then
  some (3,(r1.2.1.1,r1.2.1.2.1,r1.2.1.2.2.1,r1.2.1.2.2.2.1,r1.2.1.2.2.2.2.1,r1.2.1.2.2.2.2.2.1,r1.2.1.2.2.2.2.2.2.1,()),())
 else
  (idx r1.1 r2.1).bind fun y3=>
  bif !(y3.2.1==a2.2.2.1) then
   some (4,(r1.2.1.1,r1.2.1.2.1,r1.2.1.2.2.1,r1.2.1.2.2.2.1,r1.2.1.2.2.2.2.1,r1.2.1.2.2.2.2.2.1,r1.2.1.2.2.2.2.2.2.1,()),())
  else
   bif !(y3.2.2.1==a2.2.2.2.2.1) then
    some (4,(r1.2.1.1,r1.2.1.2.1,r1.2.1.2.2.1,r1.2.1.2.2.2.1,r1.2.1.2.2.2.2.1,r1.2.1.2.2.2.2.2.1,r1.2.1.2.2.2.2.2.2.1,()),())
   else
    (ew a2.2.2.2.2.2.1).bind fun r4=>
    (gX 1000).bind fun r5=>
    (gT r4.1 r5.1).bind fun r6=>
    (ew y3.2.2.2.2.1).bind fun r7=>
    (EV r7.1 r1.2.1.2.2.1.1).bind fun r8=>
    (gX a2.2.2.2.2.2.2.1).bind fun r9=>
    (gT r8.1 r9.1).bind fun r10=>
    (jS r6.1 r10.1).bind fun r11=>
    bif decide (r11.1>0) then
     some (5,(r1.2.1.1,r1.2.1.2.1,r1.2.1.2.2.1,r1.2.1.2.2.2.1,r1.2.1.2.2.2.2.1,r1.2.1.2.2.2.2.2.1,r1.2.1.2.2.2.2.2.2.1,()),())
    else
     (ew a2.2.2.2.1).bind fun r12=>
     (gQ (Option.getD (α:=au) (dN (k:=tI) (v:=aA) r1.2.1.2.2.2.2.2.1 a2.2.1) (false,[])) r12.1).bind fun r13=>
     (fP r13.1).bind fun r14=>
     bif decide (r14.1<0) then
      some (6,(r1.2.1.1,r1.2.1.2.1,r1.2.1.2.2.1,r1.2.1.2.2.2.1,r1.2.1.2.2.2.2.1,r1.2.1.2.2.2.2.2.1,r1.2.1.2.2.2.2.2.2.1,()),())
     else
      (gX 1000).bind fun r15=>
      (gT r13.1 r15.1).bind fun r16=>
      (EU y3).bind fun r17=>
      (EV r17.1 r1.2.1.2.2.1.2).bind fun r18=>
      (jS r16.1 r18.1).bind fun r19=>
      bif decide (r19.1>0) then
       some (6,(r1.2.1.1,r1.2.1.2.1,r1.2.1.2.2.1,r1.2.1.2.2.2.1,r1.2.1.2.2.2.2.1,r1.2.1.2.2.2.2.2.1,r1.2.1.2.2.2.2.2.2.1,()),())
      else
       some (0,(r1.2.1.1,r1.2.1.2.1,r1.2.1.2.2.1,r1.2.1.2.2.2.1,r1.2.1.2.2.2.2.1,r1.2.1.2.2.2.2.2.1,r1.2.1.2.2.2.2.2.2.1,()),())
abbrev nq:Type:=(List aI)×Int×Int×Int×Bys×Bys×Int×Int×Int×Bool×(List aZ)×(List aI)×(List bY)×Bys×Bys×Bys×Int×Int×(List aT)×(List aa)×Int×Int×(List an)×(List (Int×(List aj)))×(List (Int×au))×(List cO)×Unit
abbrev nk:Type:=(((ai×(List aa)×bD×(List an)×(List (Int×(List aj)))×(List (Int×au))×(List cO)×Unit)×Unit) ⊕ (Bys×Bys×Bys×Int×Int×(List aT)×(List aa)×Int×Int×(List an)×(List (Int×(List aj)))×(List (Int×au))×(List cO)×Unit))
def jP (x1:nq) (again:nq->Option nk):Option nk:=
 match x1 with
 | (A,B,C,D,E,F,G,H,I,J,K,L,M,N,O,P,Q,R,S,T,U,V,W,X,Y,Z,_)=>
 bif decide (C<B) then
  (idx A C).bind fun y2=>
  (uP ((N,O,P,Q,R,S),T,(U,V),W,X,Y,Z,()) G y2).bind fun r3=>
  bif r3.1 != 0 then
   (iA C r3.1 (r3.2.1.1,r3.2.1.2.1,r3.2.1.2.2.1,r3.2.1.2.2.2.1,r3.2.1.2.2.2.2.1,r3.2.1.2.2.2.2.2.1,r3.2.1.2.2.2.2.2.2.1,()) (D,())).bind fun r4=>
   again (A,B,w64 (C+1),r4.2.1.1,E,F,G,H,I,J,K,L,M,r4.1.1.1,r4.1.1.2.1,r4.1.1.2.2.1,r4.1.1.2.2.2.1,r4.1.1.2.2.2.2.1,r4.1.1.2.2.2.2.2,r4.1.2.1,r4.1.2.2.1.1,r4.1.2.2.1.2,r4.1.2.2.2.1,r4.1.2.2.2.2.1,r4.1.2.2.2.2.2.1,r4.1.2.2.2.2.2.2.1,())
  else
   (ew y2.2.2.2.1).bind fun r5=>
   (gQ (Option.getD (α:=au) (dN (k:=tI) (v:=aA) r3.2.1.2.2.2.2.2.1 y2.2.1) (false,[])) r5.1).bind fun r6=>
   again (A,B,w64 (C+1),D,E,F,G,H,I,J,K,L,M,r3.2.1.1.1,r3.2.1.1.2.1,r3.2.1.1.2.2.1,r3.2.1.1.2.2.2.1,r3.2.1.1.2.2.2.2.1,r3.2.1.1.2.2.2.2.2,r3.2.1.2.1,r3.2.1.2.2.1.1,r3.2.1.2.2.1.2,r3.2.1.2.2.2.1,r3.2.1.2.2.2.2.1,jG (k:=tI) (v:=aA) r3.2.1.2.2.2.2.2.1 y2.2.1 r6.1,r3.2.1.2.2.2.2.2.2.1,())
 else
  some (.inr (N,O,P,Q,R,S,T,U,V,W,X,Y,Z,()))
def mm (a0:ai×(List aa)×bD×(List an)×(List (Int×(List aj)))×(List (Int×au))×(List cO)×Unit) (a1:Int):Option ((ai×(List aa)×bD×(List an)×(List (Int×(List aj)))×(List (Int×au))×(List cO)×Unit)×Unit):=
 (idx a0.2.2.2.1 a1).bind fun y1=>
 bif !(y1.2.1==a0.1.1) then
  (iA (-1) 1 (a0.1,a0.2.1,a0.2.2.1,a0.2.2.2.1,a0.2.2.2.2.1,a0.2.2.2.2.2.1,a0.2.2.2.2.2.2.1,()) (a1,())).bind fun r2=>
  some ((r2.1.1,r2.1.2.1,r2.1.2.2.1,r2.1.2.2.2.1,r2.1.2.2.2.2.1,r2.1.2.2.2.2.2.1,r2.1.2.2.2.2.2.2.1,()),())
 else
  chk (decide (0<=(0:Int))&&decide ((0:Int)<=a1)&&decide (a1<=(a0.2.2.2.1.length:Int))) <|
  (ir (List.drop 0 (List.take (Int.toNat a1) a0.2.2.2.1)) y1).bind fun r3=>
  bif r3.1 then
   (iA (-1) 2 (a0.1,a0.2.1,a0.2.2.1,a0.2.2.2.1,a0.2.2.2.2.1,a0.2.2.2.2.2.1,a0.2.2.2.2.2.2.1,()) (a1,())).bind fun r4=>
   some ((r4.1.1,r4.1.2.1,r4.1.2.2.1,r4.1.2.2.2.1,r4.1.2.2.2.2.1,r4.1.2.2.2.2.2.1,r4.1.2.2.2.2.2.2.1,()),())
  else
   aG (
    iter (X:=nq) (β:=nk) (y1.2.2.2.2.2.2.2.1.length+(Int.natAbs ((y1.2.2.2.2.2.2.2.1.length:Int))+(Int.natAbs (0:Int)+(a1.natAbs+(y1.1.length+(y1.2.1.length+(y1.2.2.1.natAbs+(y1.2.2.2.1.natAbs+(y1.2.2.2.2.1.natAbs+(y1.2.2.2.2.2.2.1.length+(y1.2.2.2.2.2.2.2.1.length+(y1.2.2.2.2.2.2.2.2.length+(a0.1.1.length+(a0.1.2.1.length+(a0.1.2.2.1.length+(a0.1.2.2.2.1.natAbs+(a0.1.2.2.2.2.1.natAbs+(a0.1.2.2.2.2.2.length+(a0.2.1.length+(a0.2.2.1.1.natAbs+(a0.2.2.1.2.natAbs+(a0.2.2.2.1.length+(a0.2.2.2.2.1.length+(a0.2.2.2.2.2.1.length+(a0.2.2.2.2.2.2.1.length+2))))))))))))))))))))))))) (y1.2.2.2.2.2.2.2.1,(y1.2.2.2.2.2.2.2.1.length:Int),0,a1,y1.1,y1.2.1,y1.2.2.1,y1.2.2.2.1,y1.2.2.2.2.1,y1.2.2.2.2.2.1,y1.2.2.2.2.2.2.1,y1.2.2.2.2.2.2.2.1,y1.2.2.2.2.2.2.2.2,a0.1.1,a0.1.2.1,a0.1.2.2.1,a0.1.2.2.2.1,a0.1.2.2.2.2.1,a0.1.2.2.2.2.2,a0.2.1,a0.2.2.1.1,a0.2.2.1.2,a0.2.2.2.1,a0.2.2.2.2.1,a0.2.2.2.2.2.1,a0.2.2.2.2.2.2.1,()) (jP)) fun (A,B,C,D,E,F,G,H,I,J,K,L,M,_)=>
   some (((A,B,C,D,E,F),G,(H,I),J,K,L,M,()),())
abbrev Bp:Type:=Int×Int×Bys×Bys×Bys×Int×Int×(List aT)×(List aa)×Int×Int×(List an)×(List (Int×(List aj)))×(List (Int×au))×(List cO)×Unit
abbrev Bo:Type:=(((List cO)×Int×Unit) ⊕ (Bys×Bys×Bys×Int×Int×(List aT)×(List aa)×Int×Int×(List an)×(List (Int×(List aj)))×(List (Int×au))×(List cO)×Unit))
def w8 (x1:Bp) (again:Bp->Option Bo):Option Bo:=
 match x1 with
 | (A,B,C,D,E,F,G,H,I,J,K,L,M,N,O,_)=>
 bif decide (B<A) then
  (mm ((C,D,E,F,G,H),I,(J,K),L,M,N,O,()) B).bind fun r2=>
  again (A,w64 (B+1),r2.1.1.1,r2.1.1.2.1,r2.1.1.2.2.1,r2.1.1.2.2.2.1,r2.1.1.2.2.2.2.1,r2.1.1.2.2.2.2.2,r2.1.2.1,r2.1.2.2.1.1,r2.1.2.2.1.2,r2.1.2.2.2.1,r2.1.2.2.2.2.1,r2.1.2.2.2.2.2.1,r2.1.2.2.2.2.2.2.1,())
 else
  some (.inr (C,D,E,F,G,H,I,J,K,L,M,N,O,()))
def z7 (a0:ai) (a1:List aa) (a2:bD) (a3:List an):Option ((List cO)×Int×Unit):=
 Gu (wh a0 a1 a2 a3) (fun r1=>
  bif r1.2.1 != 0 then
   some ([],r1.2.1,())
  else
   none) (
  (z8 a0 a1 a2 a3).bind fun r2=>
  bif r2.2.1 != 0 then
   some ([],r2.2.1,())
  else
   aG (
    iter (X:=Bp) (β:=Bo) (Int.natAbs ((a3.length:Int))+(Int.natAbs (0:Int)+(r2.1.1.1.length+(r2.1.1.2.1.length+(r2.1.1.2.2.1.length+(r2.1.1.2.2.2.1.natAbs+(r2.1.1.2.2.2.2.1.natAbs+(r2.1.1.2.2.2.2.2.length+(r2.1.2.1.length+(r2.1.2.2.1.1.natAbs+(r2.1.2.2.1.2.natAbs+(r2.1.2.2.2.1.length+(r2.1.2.2.2.2.1.length+(r2.1.2.2.2.2.2.1.length+(r2.1.2.2.2.2.2.2.1.length+2))))))))))))))) ((a3.length:Int),0,r2.1.1.1,r2.1.1.2.1,r2.1.1.2.2.1,r2.1.1.2.2.2.1,r2.1.1.2.2.2.2.1,r2.1.1.2.2.2.2.2,r2.1.2.1,r2.1.2.2.1.1,r2.1.2.2.1.2,r2.1.2.2.2.1,r2.1.2.2.2.2.1,r2.1.2.2.2.2.2.1,r2.1.2.2.2.2.2.2.1,()) (w8)) fun v5=>
   some (v5.2.2.2.2.2.2.2.2.2.2.2.2.1,0,()))
def oZ (a0:List aZ):Option ((List aZ)×Unit):=
 bif List.isEmpty a0 then
  both (
   some ([],())) (
   chk (decide ((0+(a0.length))*32<=140737488355328)&&decide (0+(a0.length)<=maxLen)) <|
   some (a0,()))
 else
  chk (decide ((0+(a0.length))*32<=140737488355328)&&decide (0+(a0.length)<=maxLen)) <|
  some (a0,())
abbrev yl:Type:=(List aj)×Int×Int×Bys×Bys×Int×Int×Int×Bool×(List aZ)×(List aI)×(List bY)×Bys×Bys×Int×Int×Int×Bool×(List aZ)×(List aI)×(List bY)×Bys×Bys×Int×Int×Int×Bool×(List aI)×(List bY)×(List aZ)×Unit
abbrev yj:Type:=((an×Int×Unit) ⊕ (Bys×Bys×Int×Int×Int×Bool×(List aZ)×(List aI)×(List bY)×Bys×Bys×Int×Int×Int×Bool×(List aI)×(List bY)×(List aZ)×Unit))
def sF (x1:yl) (again:yl->Option yj):Option yj:=
 match x1 with
 | (A,B,C,D,E,F,G,H,I,J,K,L,M,N,O,P,Q,R,S,T,U,V,W,X,Y,Z,A0,B0,C0,D0,_)=>
 bif decide (C<B) then
  (idx A C).bind fun y2=>
  (EU y2).bind fun r3=>
  (fP r3.1).bind fun r4=>
  bif decide (r4.1<=0) then
   again (A,B,w64 (C+1),D,E,F,G,H,I,J,K,L,M,N,O,P,Q,R,S,T,U,V,W,X,Y,Z,A0,B0,C0,D0,())
  else
   (mY r3.1 9).bind fun r5=>
   bif r5.2.1 != 0 then
    some (.inl (([],[],0,0,0,false,[],[],[]),r5.2.1,()))
   else
    (idx J 0).bind fun y6=>
    chk (decide (((B0.length)+1)*128<=140737488355328)&&decide ((B0.length)+1<=maxLen)) <|
    again (A,B,w64 (C+1),D,E,F,G,H,I,J,K,L,M,N,O,P,Q,R,S,T,U,V,W,X,Y,Z,A0,B0++[(w64 (((B0.length:Int))+1),y2.1,y2.2.1,r5.1,y2.2.2.1,y2.2.2.2.2.1,1,[],y6.1)],C0,D0,())
 else
  some (.inr (M,N,O,P,Q,R,S,T,U,V,W,X,Y,Z,A0,B0,C0,D0,()))
def AS (a0:ai) (a1:List aa) (a2:Bys) (a3:an):Option (an×Int×Unit):=
 (jt a0).bind fun r1=>
 bif r1.1 != 0 then
  some (([],[],0,0,0,false,[],[],[]),r1.1,())
 else
  (pn a0 a1 3652059).bind fun r2=>
  bif r2.2.1 != 0 then
   some (([],[],0,0,0,false,[],[],[]),r2.2.1,())
  else
   (bZ a2).bind fun r3=>
   bif !r3.1 then
    some (([],[],0,0,0,false,[],[],[]),5,())
   else
    (iE a3).bind fun r4=>
    bif r4.1 != 0 then
     some (([],[],0,0,0,false,[],[],[]),r4.1,())
    else
     (oZ a3.2.2.2.2.2.2.1).bind fun r5=>
     aG (
      iter (X:=yl) (β:=yj) (r2.1.length+(Int.natAbs ((r2.1.length:Int))+(Int.natAbs (0:Int)+(a3.1.length+(a3.2.1.length+(a3.2.2.1.natAbs+(a3.2.2.2.1.natAbs+(a3.2.2.2.2.1.natAbs+(a3.2.2.2.2.2.2.1.length+(a3.2.2.2.2.2.2.2.1.length+(a3.2.2.2.2.2.2.2.2.length+(List.length ([]:Bys)+(List.length ([]:Bys)+(Int.natAbs (0:Int)+(Int.natAbs (0:Int)+(Int.natAbs (0:Int)+(List.length ([]:List aZ)+(List.length ([]:List aI)+(List.length ([]:List bY)+(a2.length+(a0.1.length+(a3.2.2.1.natAbs+(a3.2.2.2.1.natAbs+(a3.2.2.2.2.1.natAbs+(List.length ([]:List aI)+(List.length ([]:List bY)+(r5.1.length+2))))))))))))))))))))))))))) (r2.1,(r2.1.length:Int),0,a3.1,a3.2.1,a3.2.2.1,a3.2.2.2.1,a3.2.2.2.2.1,a3.2.2.2.2.2.1,a3.2.2.2.2.2.2.1,a3.2.2.2.2.2.2.2.1,a3.2.2.2.2.2.2.2.2,[],[],0,0,0,false,[],[],[],a2,a0.1,a3.2.2.1,a3.2.2.2.1,a3.2.2.2.2.1,a3.2.2.2.2.2.1,[],[],r5.1,()) (sF)) fun (_,_,_,_,_,_,_,_,_,A,B,C,D,E,F,G,H,I,_)=>
     bif ((G.length:Int))==0 then
      some (([],[],0,0,0,false,[],[],[]),9,())
     else
      (iE (A,B,C,D,E,F,I,G,H)).bind fun r13=>
      bif r13.1 != 0 then
       some (([],[],0,0,0,false,[],[],[]),r13.1,())
      else
       some ((A,B,C,D,E,F,I,G,H),0,())
end Go.Md
set_option linter.all false
namespace Go.Md
open Go.Dn
def lZ (a b:Bys×Bys):Int:=bif Lib.compareBytes a.1 b.1==0 then Lib.compareBytes a.2 b.2 else Lib.compareBytes a.1 b.1
noncomputable section
def jc (a0:List (bL×au)) (a1:bL) (a2:ah):Option ((List (bL×au))×Unit):=
 bif !(Option.isSome (dN (k:=aK) (v:=aA) a0 a1)) then
  (gX 0).bind fun r1=>
  (jB a2 9).bind fun r2=>
  (gQ r1.1 r2.1).bind fun r3=>
  some (jG (k:=aK) (v:=aA) a0 a1 r3.1,())
 else
  (jB a2 9).bind fun r4=>
  (gQ (Option.getD (α:=au) (dN (k:=aK) (v:=aA) a0 a1) (false,[])) r4.1).bind fun r5=>
  some (jG (k:=aK) (v:=aA) a0 a1 r5.1,())
abbrev pJ:Type:=(List av)×Int×Int×(List bL)×(List (bL×au))×Unit
abbrev pI:Type:=(((List av)×Int×(List (bL×au))×Unit) ⊕ ((List av)×(List (bL×au))×Unit))
def mU (x1:pJ) (again:pJ->Option pI):Option pI:=
 match x1 with
 | (A,B,C,D,E,_)=>
 bif decide (C<B) then
  chk (decide (0<=C)&&decide (C<(D.length:Int))) <|
  (D[C.toNat]?).bind fun y2=>
  (xK (Option.getD (α:=au) (dN (k:=aK) (v:=aA) E y2) (false,[]))).bind fun r3=>
  bif r3.2.1 != 0 then
   some (.inl ([],r3.2.1,E,()))
  else
   bif r3.1.1 != 0 then
    chk (decide (((A.length)+1)*48<=140737488355328)&&decide ((A.length)+1<=maxLen)) <|
    again (A++[(y2.1,y2.2,r3.1)],B,w64 (C+1),D,E,())
   else
    again (A,B,w64 (C+1),D,E,())
 else
  some (.inr (A,E,()))
def An (a0:List (bL×au)):Option ((List av)×Int×(List (bL×au))×Unit):=
 chk (GG lZ a0) <|
 aG (
  iter (X:=pJ) (β:=pI) (List.length ([]:List av)+(Int.natAbs ((List.length (sW lZ a0):Int))+(Int.natAbs (0:Int)+(List.length ((sW lZ a0):List bL)+(a0.length+2))))) ([],(List.length (sW lZ a0):Int),0,sW lZ a0,a0,()) (mU)) fun v4=>
 some (v4.1,0,v4.2.1,())
end
end Go.Md
set_option linter.all false
namespace Go.Md
open Go.Dn
noncomputable section
end
end Go.Md
set_option linter.all false
namespace Go.Md
open Go.Dn
noncomputable section
abbrev bz:Type:=Bys×Bool×(List aF)×(List aF)
abbrev qJ:Type:=bC×(List bz)
abbrev cV:Ty:=(.st (.pair .str (.pair .bool (.pair (.slice cw) (.slice cw)))))
abbrev HZ:Ty:=(.st (.pair jx (.slice cV)))
abbrev xz:Type:=(List bz)×(List ak)×Int×Int×Unit
abbrev FR:Type:=(((List bz)×Unit) ⊕ ((List bz)×Unit))
def Bz (x1:xz) (again:xz->Option FR):Option FR:=
 match x1 with
 | (A,B,C,D,_)=>
 bif decide (D<C) then
  (idx B D).bind fun y2=>
  bif y2.2.1==[] then
   chk (decide (((A.length)+1)*72<=140737488355328)&&decide ((A.length)+1<=maxLen)) <|
   again (A++[(y2.1,true,[],[])],B,C,w64 (D+1),())
  else
   again (A,B,C,w64 (D+1),())
 else
  some (.inr (A,()))
def Dk (a0:bC):Option ((List bz)×Unit):=
 aG (
  iter (X:=xz) (β:=FR) (List.length ([]:List bz)+(a0.2.2.2.length+(Int.natAbs ((a0.2.2.2.length:Int))+(Int.natAbs (0:Int)+2)))) ([],a0.2.2.2,(a0.2.2.2.length:Int),0,()) (Bz)) fun v3=>
 some (v3.1,())
abbrev eN:Type:=(List aF)×Unit×Int×Int×Int×Bys×Bys×Bys×Int×Int×Unit
abbrev eM:Type:=((Int×Bool×Unit) ⊕ ((List aF)×Unit×Int×Int×Bys×Bys×Bys×Int×Int×Unit))
def qs (x1:eN) (again:eN->Option eM):Option eM:=
 match x1 with
 | (A,B,C,D,E,F,G,H,I,J,_)=>
 bif decide (D<E) then
  let n2:Int:=w64 (Int.fdiv (cg (w64 (D+E))) (2 ^ 1))
  (idx A n2).bind fun y3=>
  (gh y3 (F,G,H,I,J)).bind fun r4=>
  bif decide (r4.1<0) then
   again (A,B,C,w64 (n2+1),E,F,G,H,I,J,())
  else
   again (A,B,C,D,n2,F,G,H,I,J,())
 else
  some (.inr (A,B,C,D,F,G,H,I,J,()))
def jE (a0:List aF) (a1:aF) (a2:Unit):Option (Int×Bool×Unit):=
 aG (
  iter (X:=eN) (β:=eM) (a0.length+(Int.natAbs ((a0.length:Int))+(Int.natAbs (0:Int)+(Int.natAbs ((a0.length:Int))+(a1.1.length+(a1.2.1.length+(a1.2.2.1.length+(a1.2.2.2.1.natAbs+(a1.2.2.2.2.natAbs+2))))))))) (a0,a2,(a0.length:Int),0,(a0.length:Int),a1.1,a1.2.1,a1.2.2.1,a1.2.2.2.1,a1.2.2.2.2,()) (qs)) fun (A,_,B,C,D,E,F,G,H,_)=>
 bif decide (C<B) then
  (idx A C).bind fun y6=>
  (gh y6 (D,E,F,G,H)).bind fun r7=>
  some (C,r7.1==0,())
 else
  some (C,false,())
def F2 (a0:List aF) (a1:aF):Option (au×Unit):=
 (jE a0 a1 ()).bind fun r1=>
 bif !r1.2.1 then
  (gX 0).bind fun r2=>
  some (r2.1,())
 else
  (idx a0 r1.1).bind fun y3=>
  (ew y3.2.2.2).bind fun r4=>
  some (r4.1,())
abbrev rQ:Type:=Int×Int×Bys×Bool×(List aF)×(List aF)×(List (List aF))×Unit
abbrev xY:Type:=((Int×Unit) ⊕ (Bys×Bool×(List aF)×(List aF)×Unit))
def rP (x1:rQ) (again:rQ->Option xY):Option xY:=
 match x1 with
 | (A,B,C,D,E,F,G,_)=>
 bif decide (B<A) then
  chk (decide (0<=B)&&decide (B<(G.length:Int))) <|
  (G[B.toNat]?).bind fun y2=>
  (jJ y2).bind fun r3=>
  bif r3.1 != 0 then
   some (.inl (r3.1,()))
  else
   again (A,w64 (B+1),C,D,E,F,G,())
 else
  some (.inr (C,D,E,F,()))
abbrev qo:Type:=(List aF)×Int×Int×Bys×Bool×(List aF)×(List aF)×Unit
abbrev wM:Type:=((Int×Unit) ⊕ Unit)
def wL (x1:qo) (again:qo->Option wM):Option wM:=
 match x1 with
 | (A,B,C,D,E,F,G,_)=>
 bif decide (C<B) then
  (idx A C).bind fun y2=>
  (ew y2.2.2.2).bind fun r3=>
  (F2 F y2).bind fun r4=>
  (jS r3.1 r4.1).bind fun r5=>
  bif decide (r5.1>0) then
   some (.inl (12,()))
  else
   again (A,B,w64 (C+1),D,E,F,G,())
 else
  some (.inr ())
def wK (a0:List bz) (a1:Int):Option (Int×Unit):=
 (idx a0 a1).bind fun y1=>
 (qH y1.1).bind fun r2=>
 bif !r2.1 then
  some (3,())
 else
  (
   bif decide (a1>0) then
    Option.bind (idx a0 (w64 (a1 - 1))) fun y3=>
    some (Op.bytesLess y1.1 y3.1||y1.1==y3.1,())
   else
    some (false,())).bind fun v4=>
  bif v4.1 then
   some (8,())
  else
   (
    bif y1.2.1 then
     some (decide ((w64 (((y1.2.2.1.length:Int))+((y1.2.2.2.length:Int))))>0),())
    else
     some (false,())).bind fun v5=>
   bif v5.1 then
    some (3,())
   else
    aG (
     iter (X:=rQ) (β:=xY) (Int.natAbs ((List.length [y1.2.2.1,y1.2.2.2]:Int))+(Int.natAbs (0:Int)+(y1.1.length+(y1.2.2.1.length+(y1.2.2.2.length+(List.length ([y1.2.2.1,y1.2.2.2]:List (List aF))+2)))))) ((List.length [y1.2.2.1,y1.2.2.2]:Int),0,y1.1,y1.2.1,y1.2.2.1,y1.2.2.2,[y1.2.2.1,y1.2.2.2],()) (rP)) fun (A,B,C,D,_)=>
    aG (
     iter (X:=qo) (β:=wM) (D.length+(Int.natAbs ((D.length:Int))+(Int.natAbs (0:Int)+(A.length+(C.length+(D.length+2)))))) (D,(D.length:Int),0,A,B,C,D,()) (wL)) fun _=>
    some (0,())
abbrev mI:Type:=(List bz)×Int×Int×Unit
abbrev wC:Type:=((Int×Unit) ⊕ Unit)
def qa (x1:mI) (again:mI->Option wC):Option wC:=
 bif decide (x1.2.2.1<x1.2.1) then
  (wK x1.1 x1.2.2.1).bind fun r2=>
  bif r2.1 != 0 then
   some (.inl (r2.1,()))
  else
   again (x1.1,x1.2.1,w64 (x1.2.2.1+1),())
 else
  some (.inr ())
def pH (a0:List bz):Option (Int×Unit):=
 bif decide (((a0.length:Int))>500) then
  some (2,())
 else
  aG (
   iter (X:=mI) (β:=wC) (a0.length+(Int.natAbs ((a0.length:Int))+(Int.natAbs (0:Int)+2))) (a0,(a0.length:Int),0,()) (qa)) fun _=>
  some (0,())
def wE (a0:bC) (a1:List bz):Option ((bC×(List bz)×Unit)×Int×Unit):=
 (oo a0).bind fun r1=>
 bif r1.1 != 0 then
  none
 else
  (pH a1).bind fun r2=>
  bif r2.1 != 0 then
   none
  else
   some ((a0,a1,()),0,())
def tH (a0:bC) (a1:List bz):Option ((Option Nat)×Int×Unit):=
 (oo a0).bind fun r1=>
 bif r1.1 != 0 then
  some (none,r1.1,())
 else
  (pH a1).bind fun r2=>
  bif r2.1 != 0 then
   some (none,r2.1,())
  else
   none
def vq (a0:bz) (a1:Bys):Option (Int×Unit):=
 (strings_Compare a0.1 a1).bind fun r1=>
 some (r1.1,())
abbrev cU:Type:=(List bz)×Bys×Unit×Int×Int×Int×Unit
abbrev gO:Type:=((Int×Bool×Unit) ⊕ ((List bz)×Bys×Unit×Int×Int×Unit))
def gN (x1:cU) (again:cU->Option gO):Option gO:=
 match x1 with
 | (A,B,C,D,E,F,_)=>
 bif decide (E<F) then
  let n2:Int:=w64 (Int.fdiv (cg (w64 (E+F))) (2 ^ 1))
  (idx A n2).bind fun y3=>
  (vq y3 B).bind fun r4=>
  bif decide (r4.1<0) then
   again (A,B,C,D,w64 (n2+1),F,())
  else
   again (A,B,C,D,E,n2,())
 else
  some (.inr (A,B,C,D,E,()))
def dw (a0:List bz) (a1:Bys) (a2:Unit):Option (Int×Bool×Unit):=
 aG (
  iter (X:=cU) (β:=gO) (a0.length+(a1.length+(Int.natAbs ((a0.length:Int))+(Int.natAbs (0:Int)+(Int.natAbs ((a0.length:Int))+2))))) (a0,a1,a2,(a0.length:Int),0,(a0.length:Int),()) (gN)) fun (A,B,_,C,D,_)=>
 bif decide (D<C) then
  (idx A D).bind fun y6=>
  (vq y6 B).bind fun r7=>
  some (D,r7.1==0,())
 else
  some (D,false,())
def kD (a0:qJ) (a1:Bys):Option (bz×Bool×Unit):=
 (dw a0.2 a1 ()).bind fun r1=>
 bif !r1.2.1 then
  some (([],false,[],[]),false,())
 else
  (idx a0.2 r1.1).bind fun y2=>
  some (y2,true,())
def jb (a0:bC×(List bz)×Unit) (a1:Bys):Option (bz×Bool×(bC×(List bz)×Unit)×Unit):=
 (dw a0.2.1 a1 ()).bind fun r1=>
 bif !r1.2.1 then
  some (([],false,[],[]),false,(a0.1,a0.2.1,()),())
 else
  (idx a0.2.1 r1.1).bind fun y2=>
  some (y2,true,(a0.1,a0.2.1,()),())
def cR (self:(qJ×Int×Unit)->Option (Bool×Unit)) (a0:qJ) (a1:Int):Option (Bool×Unit):=
 (idx a0.1.2.2.2 a1).bind fun y1=>
 (kD a0 y1.1).bind fun r2=>
 bif r2.2.1 then
  some (true,())
 else
  (idx a0.1.2.2.2 a1).bind fun y3=>
  bif y3.2.1==[] then
   some (false,())
  else
   (oU a0.1 y3.2.1).bind fun r4=>
   (kD a0 y3.2.1).bind fun r5=>
   (self (a0,r4.1,())).bind fun r6=>
   bif r6.1 then
    bif !r5.2.1 then
     some (true,())
    else
     some (r5.1.2.1,())
   else
    some (false,())
def qV (a0:qJ) (a1:Int):Nat:=a0.1.1.length+(a0.1.2.1.length+(a0.1.2.2.1.natAbs+(a0.1.2.2.2.length+(a0.2.length+(a1.natAbs+2)))))
def nG (a0:qJ) (a1:Int):Option (Bool×Unit):=
 zx (fun self x=>cR self x.1 x.2.1) (qV a0 a1) (a0,a1,())
def OR (a0:ah):Option (ah×Unit):=
 some ((w64 (0 - a0.1),a0.2),())
abbrev tG:Type:=(List bz)×Int×Int×(List aF)×Int×Int×Bys×Bys×Int×(List ak)×Bys×Bool×(List aF)×(List aF)×Bys×Bys×Int×(List ak)×(List bz)×(List (bL×au))×Unit
abbrev zq:Type:=((((List av)×Int×Unit) ⊕ (Bys×Bys×Int×(List ak)×Bys×Bys×Int×(List ak)×(List bz)×(List (bL×au))×Unit)) ⊕ ((List bz)×Int×Int×Bys×Bys×Int×(List ak)×Bys×Bool×(List aF)×(List aF)×Bys×Bys×Int×(List ak)×(List bz)×(List (bL×au))×Unit))
def zo (x1:tG) (again:tG->Option zq):Option zq:=
 match x1 with
 | (A,B,C,D,E,F,G,H,I,J,K,L,M,N,O,P,Q,R,S,T,_)=>
 bif decide (F<E) then
  (idx D F).bind fun y2=>
  (jc T (y2.1,y2.2.1) y2.2.2.2).bind fun r3=>
  again (A,B,C,D,E,w64 (F+1),G,H,I,J,K,L,M,N,O,P,Q,R,S,r3.1,())
 else
  some (.inr (A,B,C,G,H,I,J,K,L,M,N,O,P,Q,R,S,T,()))
abbrev rK:Type:=(List bz)×Int×Int×(List aF)×Int×Int×Bys×Bys×Int×(List ak)×Bys×Bys×Int×(List ak)×(List bz)×(List (bL×au))×Unit
abbrev xV:Type:=((((List av)×Int×Unit) ⊕ (Bys×Bys×Int×(List ak)×Bys×Bys×Int×(List ak)×(List bz)×(List (bL×au))×Unit)) ⊕ ((List bz)×Int×Int×Bys×Bys×Int×(List ak)×Bys×Bys×Int×(List ak)×(List bz)×(List (bL×au))×Unit))
def xU (x1:rK) (again:rK->Option xV):Option xV:=
 match x1 with
 | (A,B,C,D,E,F,G,H,I,J,K,L,M,N,O,P,_)=>
 bif decide (F<E) then
  (idx D F).bind fun y2=>
  (OR y2.2.2.2).bind fun r3=>
  (jc P (y2.1,y2.2.1) r3.1).bind fun r4=>
  again (A,B,C,D,E,w64 (F+1),G,H,I,J,K,L,M,N,O,r4.1,())
 else
  some (.inr (A,B,C,G,H,I,J,K,L,M,N,O,P,()))
abbrev ot:Type:=(List bz)×Int×Int×Bys×Bys×Int×(List ak)×Bys×Bys×Int×(List ak)×(List bz)×(List (bL×au))×Unit
abbrev tF:Type:=(((List av)×Int×Unit) ⊕ (Bys×Bys×Int×(List ak)×Bys×Bys×Int×(List ak)×(List bz)×(List (bL×au))×Unit))
def tD (x1:ot) (again:ot->Option tF):Option tF:=
 match x1 with
 | (A,B,C,D,E,F,G,H,I,J,K,L,M,_)=>
 bif decide (C<B) then
  (idx A C).bind fun y2=>
  aG (
   iter (X:=tG) (β:=zq) (A.length+(B.natAbs+(C.natAbs+(y2.2.2.1.length+(Int.natAbs ((y2.2.2.1.length:Int))+(Int.natAbs (0:Int)+(D.length+(E.length+(F.natAbs+(G.length+(y2.1.length+(y2.2.2.1.length+(y2.2.2.2.length+(H.length+(I.length+(J.natAbs+(K.length+(L.length+(M.length+2))))))))))))))))))) (A,B,C,y2.2.2.1,(y2.2.2.1.length:Int),0,D,E,F,G,y2.1,y2.2.1,y2.2.2.1,y2.2.2.2,H,I,J,K,L,M,()) (zo)) fun (N,O,P,Q,R,S,T,_,_,_,U,V,W,Y,Z,A0,B0,_)=>
  aG (
   iter (X:=rK) (β:=xV) (N.length+(O.natAbs+(P.natAbs+(U.length+(Int.natAbs ((U.length:Int))+(Int.natAbs (0:Int)+(Q.length+(R.length+(S.natAbs+(T.length+(V.length+(W.length+(Y.natAbs+(Z.length+(A0.length+(B0.length+2)))))))))))))))) (N,O,P,U,(U.length:Int),0,Q,R,S,T,V,W,Y,Z,A0,B0,()) (xU)) fun (C0,D0,E0,F0,G0,H0,I0,J0,K0,L0,M0,N0,O0,_)=>
  again (C0,D0,w64 (E0+1),F0,G0,H0,I0,J0,K0,L0,M0,N0,O0,())
 else
  some (.inr (D,E,F,G,H,I,J,K,L,M,()))
abbrev nF:Type:=(List ak)×Int×Int×(List aF)×Int×Int×Bys×Bys×Int×(List ak)×(List bz)×(List (bL×au))×Unit
abbrev rJ:Type:=((((List av)×Int×Unit) ⊕ ((List (bL×au))×Unit)) ⊕ ((List ak)×Int×Int×Bys×Bys×Int×(List ak)×(List bz)×(List (bL×au))×Unit))
def rH (x1:nF) (again:nF->Option rJ):Option rJ:=
 match x1 with
 | (A,B,C,D,E,F,G,H,I,J,K,L,_)=>
 bif decide (F<E) then
  (idx D F).bind fun y2=>
  (jc L (y2.1,y2.2.1) y2.2.2.2).bind fun r3=>
  again (A,B,C,D,E,w64 (F+1),G,H,I,J,K,r3.1,())
 else
  some (.inr (A,B,C,G,H,I,J,K,L,()))
abbrev nE:Type:=(List ak)×Int×Int×Bys×Bys×Int×(List ak)×(List bz)×(List (bL×au))×Unit
abbrev rI:Type:=(((List av)×Int×Unit) ⊕ ((List (bL×au))×Unit))
def rG (x1:nE) (again:nE->Option rI):Option rI:=
 match x1 with
 | (A,B,C,D,E,F,G,H,I,_)=>
 bif decide (C<B) then
  (idx A C).bind fun y2=>
  (jb ((D,E,F,G),H,()) y2.1).bind fun r3=>
  (
   Option.bind (nG (r3.2.2.1.1,r3.2.2.1.2.1) C) fun r4=>
   bif !r4.1 then
    some (true,())
   else
    bif r3.2.1 then
     some (!r3.1.2.1,())
    else
     some (false,())).bind fun v5=>
  bif v5.1 then
   again (A,B,w64 (C+1),r3.2.2.1.1.1,r3.2.2.1.1.2.1,r3.2.2.1.1.2.2.1,r3.2.2.1.1.2.2.2,r3.2.2.1.2.1,I,())
  else
   aG (
    iter (X:=nF) (β:=rJ) (A.length+(B.natAbs+(C.natAbs+(y2.2.2.2.length+(Int.natAbs ((y2.2.2.2.length:Int))+(Int.natAbs (0:Int)+(r3.2.2.1.1.1.length+(r3.2.2.1.1.2.1.length+(r3.2.2.1.1.2.2.1.natAbs+(r3.2.2.1.1.2.2.2.length+(r3.2.2.1.2.1.length+(I.length+2)))))))))))) (A,B,C,y2.2.2.2,(y2.2.2.2.length:Int),0,r3.2.2.1.1.1,r3.2.2.1.1.2.1,r3.2.2.1.1.2.2.1,r3.2.2.1.1.2.2.2,r3.2.2.1.2.1,I,()) (rH)) fun (J,K,L,M,N,O,P,Q,R,_)=>
   again (J,K,w64 (L+1),M,N,O,P,Q,R,())
 else
  some (.inr (I,()))
def tC (a0:bC) (a1:List bz):Option ((List av)×Int×Unit):=
 Gu (tH a0 a1) (fun r1=>
  bif r1.2.1 != 0 then
   some ([],r1.2.1,())
  else
   none) (
  (wE a0 a1).bind fun r2=>
  bif r2.2.1 != 0 then
   some ([],r2.2.1,())
  else
   aG (
    iter (X:=ot) (β:=tF) (a1.length+(Int.natAbs ((a1.length:Int))+(Int.natAbs (0:Int)+(a0.1.length+(a0.2.1.length+(a0.2.2.1.natAbs+(a0.2.2.2.length+(r2.1.1.1.length+(r2.1.1.2.1.length+(r2.1.1.2.2.1.natAbs+(r2.1.1.2.2.2.length+(r2.1.2.1.length+(List.length ([]:List (bL×au))+2))))))))))))) (a1,(a1.length:Int),0,a0.1,a0.2.1,a0.2.2.1,a0.2.2.2,r2.1.1.1,r2.1.1.2.1,r2.1.1.2.2.1,r2.1.1.2.2.2,r2.1.2.1,[],()) (tD)) fun (_,_,_,A,B,C,D,E,F,G,_)=>
   aG (
    iter (X:=nE) (β:=rI) (A.length+(Int.natAbs ((A.length:Int))+(Int.natAbs (0:Int)+(B.length+(C.length+(D.natAbs+(E.length+(F.length+(G.length+2))))))))) (A,(A.length:Int),0,B,C,D,E,F,G,()) (rG)) fun v24=>
   (An v24.1).bind fun r25=>
   some (r25.1,r25.2.1,()))
end
end Go.Md
set_option linter.all false
namespace Go.Md
open Go.Dn
noncomputable section
abbrev qc:Type:=(List av)×Int×Int×(List (bL×Bool))×Unit
abbrev wF:Type:=((Int×Unit) ⊕ Unit)
def qb (x1:qc) (again:qc->Option wF):Option wF:=
 bif decide (x1.2.2.1<x1.2.1) then
  (idx x1.1 x1.2.2.1).bind fun y2=>
  (bZ y2.1).bind fun r3=>
  bif !r3.1 then
   some (.inl (5,()))
  else
   (bZ y2.2.1).bind fun r4=>
   bif !r4.1 then
    some (.inl (5,()))
   else
    bif Option.getD (α:=Bool) (dN (k:=aK) (v:= .bool) x1.2.2.2.1 (y2.1,y2.2.1)) false then
     some (.inl (7,()))
    else
     (cZ y2.2.2 false).bind fun r5=>
     bif r5.1 != 0 then
      some (.inl (r5.1,()))
     else
      again (x1.1,x1.2.1,w64 (x1.2.2.1+1),jG (k:=aK) (v:= .bool) x1.2.2.2.1 (y2.1,y2.2.1) true,())
 else
  some (.inr ())
def uS (a0:List av):Option (Int×Unit):=
 aG (
  iter (X:=qc) (β:=wF) (a0.length+(Int.natAbs ((a0.length:Int))+(Int.natAbs (0:Int)+(List.length ([]:List (bL×Bool))+2)))) (a0,(a0.length:Int),0,[],()) (qb)) fun _=>
 some (0,())
def Ao (a0:av) (a1:av):Option (Bool×Unit):=
 (
  bif a0.1==a1.1 then
   some (a0.2.1==a1.2.1,())
  else
   some (false,())).bind fun v1=>
 some (v1.1,())
abbrev eG:Type:=(List av)×av×Int×Int×Unit
abbrev nj:Type:=((Int×Unit) ⊕ Unit)
def gv (x1:eG) (again:eG->Option nj):Option nj:=
 match x1 with
 | (A,B,C,D,_)=>
 bif decide (D<C) then
  (idx A D).bind fun y2=>
  (Ao y2 B).bind fun r3=>
  bif r3.1 then
   some (.inl (D,()))
  else
   again (A,B,C,w64 (D+1),())
 else
  some (.inr ())
def ij (a0:List av) (a1:av):Option (Int×Unit):=
 aG (
  iter (X:=eG) (β:=nj) (a0.length+(Int.natAbs ((a0.length:Int))+(Int.natAbs (0:Int)+2))) (a0,a1,(a0.length:Int),0,()) (gv)) fun _=>
 some ((-1),())
def lR (a0:ah):Option (Int×Unit):=
 (jB a0 3).bind fun r1=>
 (xC r1.1 1000000000000000000).bind fun r2=>
 some (r2.1,())
abbrev oT:Type:=(List av)×Int×(List Int)×(List av)×Int×Int×Unit
abbrev Dj:Type:=((Int×(List Int)×Int×Unit) ⊕ (Int×(List Int)×Unit))
def tK (x1:oT) (again:oT->Option Dj):Option Dj:=
 match x1 with
 | (A,B,C,D,E,F,_)=>
 bif decide (F<E) then
  (idx D F).bind fun y2=>
  (ij A y2).bind fun r3=>
  bif decide (r3.1<0) then
   some (.inl (0,[],9,()))
  else
   (idx A r3.1).bind fun y4=>
   (lR y4.2.2).bind fun r5=>
   chk (decide (((C.length)+1)*8<=140737488355328)&&decide ((C.length)+1<=maxLen)) <|
   (lR y2.2.2).bind fun r6=>
   chk (r5.1 != (0:Int)) <|
   let n7:Int:=w64 (Int.tdiv (w64 ((w64 (r6.1+r5.1)) - 1)) r5.1)
   again (A,w64 (B+n7),C++[r5.1],D,E,w64 (F+1),())
 else
  some (.inr (B,C,()))
def zu (a0:List av) (a1:List av):Option (Int×(List Int)×Int×Unit):=
 aG (
  iter (X:=oT) (β:=Dj) (a1.length+(Int.natAbs (0:Int)+(List.length ([]:List Int)+(a0.length+(Int.natAbs ((a0.length:Int))+(Int.natAbs (0:Int)+2)))))) (a1,0,[],a0,(a0.length:Int),0,()) (tK)) fun v8=>
 some (v8.1,v8.2.1,0,())
def tJ (a0:Bys) (a1:Int) (a2:Int):Option (Int×Unit):=
 bif a2==0 then
  some (0,())
 else
  (nP a0 a1).bind fun r1=>
  bif r1.2.1 != 0 then
   some (r1.2.1,())
  else
   (A8 a0).bind fun r2=>
   bif decide (a2>(w64 (r2.1 - a1))) then
    some (1,())
   else
    some (0,())
def Bx (a0:Int):Option (ah×Unit):=
 (gX a0).bind fun r1=>
 (mY r1.1 3).bind fun r2=>
 some (r2.1,())
abbrev qG:Type:=(List av)×(List av)×Bys×Int×Int×Int×(List (List av))×Unit
abbrev vp:Type:=(((List ak)×Int×Unit) ⊕ ((List av)×(List av)×Bys×Int×Unit))
def vo (x1:qG) (again:qG->Option vp):Option vp:=
 match x1 with
 | (A,B,C,D,E,F,G,_)=>
 bif decide (F<E) then
  chk (decide (0<=F)&&decide (F<(G.length:Int))) <|
  (G[F.toNat]?).bind fun y2=>
  (uS y2).bind fun r3=>
  bif r3.1 != 0 then
   some (.inl ([],r3.1,()))
  else
   again (A,B,C,D,E,w64 (F+1),G,())
 else
  some (.inr (A,B,C,D,()))
abbrev tw:Type:=Bys×Int×(List ak)×Int×Int×(List av)×Int×Int×Bys×Bys×Int×Int×(List Int)×Unit
abbrev yG:Type:=((((List ak)×Int×Unit) ⊕ ((List ak)×Unit)) ⊕ (Bys×Int×(List ak)×(List av)×Int×Int×(List Int)×Unit))
def Di (x1:tw) (again:tw->Option yG):Option yG:=
 match x1 with
 | (A,B,C,D,E,F,G,H,I,J,K,L,M,_)=>
 bif decide (E>0) then
  (nP A (w64 (B+((C.length:Int))))).bind fun r2=>
  chk (decide (0<=D)&&decide (D<(M.length:Int))) <|
  (M[D.toNat]?).bind fun y3=>
  (Bx (if y3<E then y3 else E)).bind fun r4=>
  chk (decide (((C.length)+1)*72<=140737488355328)&&decide ((C.length)+1<=maxLen)) <|
  chk (decide (0<=D)&&decide (D<(M.length:Int))) <|
  (M[D.toNat]?).bind fun y5=>
  again (A,B,C++[(r2.1,[],(0,0),[(I,J,[],r4.1)])],D,w64 (E - y5),F,G,H,I,J,K,L,M,())
 else
  some (.inr (A,B,C,F,G,H,M,()))
abbrev oS:Type:=Bys×Int×(List ak)×(List av)×Int×Int×(List Int)×Unit
abbrev tv:Type:=(((List ak)×Int×Unit) ⊕ ((List ak)×Unit))
def oQ (x1:oS) (again:oS->Option tv):Option tv:=
 match x1 with
 | (A,B,C,D,E,F,G,_)=>
 bif decide (F<E) then
  (idx D F).bind fun y2=>
  (lR y2.2.2).bind fun r3=>
  aG (
   iter (X:=tw) (β:=yG) (A.length+(B.natAbs+(C.length+(F.natAbs+(r3.1.natAbs+(D.length+(E.natAbs+(F.natAbs+(y2.1.length+(y2.2.1.length+(y2.2.2.1.natAbs+(y2.2.2.2.natAbs+(G.length+2))))))))))))) (A,B,C,F,r3.1,D,E,F,y2.1,y2.2.1,y2.2.2.1,y2.2.2.2,G,()) (Di)) fun (H,I,J,K,L,M,N,_)=>
  again (H,I,J,K,L,w64 (M+1),N,())
 else
  some (.inr (C,()))
def uB (a0:List av) (a1:List av) (a2:Bys) (a3:Int):Option ((List ak)×Int×Unit):=
 bif decide (((a0.length:Int))>100) then
  some ([],2,())
 else
  bif decide (((a1.length:Int))>100) then
   some ([],2,())
  else
   aG (
    iter (X:=qG) (β:=vp) (a0.length+(a1.length+(a2.length+(a3.natAbs+(Int.natAbs ((List.length [a0,a1]:Int))+(Int.natAbs (0:Int)+(List.length ([a0,a1]:List (List av))+2))))))) (a0,a1,a2,a3,(List.length [a0,a1]:Int),0,[a0,a1],()) (vo)) fun (A,B,C,D,_)=>
   (zu A B).bind fun r5=>
   bif r5.2.2.1 != 0 then
    some ([],r5.2.2.1,())
   else
    (tJ C D r5.1).bind fun r6=>
    bif r6.1 != 0 then
     some ([],r6.1,())
    else
     bif decide (r5.1>500) then
      some ([],2,())
     else
      aG (
       iter (X:=oS) (β:=tv) (C.length+(D.natAbs+(List.length ([]:List ak)+(A.length+(Int.natAbs ((A.length:Int))+(Int.natAbs (0:Int)+(r5.2.1.length+2))))))) (C,D,[],A,(A.length:Int),0,r5.2.1,()) (oQ)) fun v16=>
      some (v16.1,0,())
end
end Go.Md
set_option linter.all false
namespace Go.Md
open Go.Dn
noncomputable section
abbrev oW:Type:=(List aT)×Int×Int×(List aT)×Int×Int×Bys×Bys×Bys×Int×Int×(List aT)×Int×Bys×Int×Int×Bys×Int×Int×Int×Unit
abbrev Dp:Type:=(((Bool×Unit) ⊕ (Bys×Bys×Bys×Int×Int×(List aT)×Unit)) ⊕ ((List aT)×Int×Int×Bys×Bys×Bys×Int×Int×(List aT)×Unit))
def tT (x1:oW) (again:oW->Option Dp):Option Dp:=
 match x1 with
 | (A,B,C,D,E,F,G,H,I,J,K,L,M,N,O,P,Q,R,S,T,_)=>
 bif decide (F<E) then
  (idx D F).bind fun y2=>
  (
   bif N==y2.2.1 then
    some (Q==y2.2.2.2.1,())
   else
    some (false,())).bind fun v3=>
  bif v3.1 then
   LI <|
    some (.inl (true,()))
  else
   again (A,B,C,D,E,w64 (F+1),G,H,I,J,K,L,M,N,O,P,Q,R,S,T,())
 else
  some (.inr (A,B,C,G,H,I,J,K,L,()))
abbrev oV:Type:=(List aT)×Int×Int×Bys×Bys×Bys×Int×Int×(List aT)×Unit
abbrev Dm:Type:=((Bool×Unit) ⊕ (Bys×Bys×Bys×Int×Int×(List aT)×Unit))
def tP (x1:oV) (again:oV->Option Dm):Option Dm:=
 match x1 with
 | (A,B,C,D,E,F,G,H,I,_)=>
 bif decide (C<B) then
  (idx A C).bind fun y2=>
  chk (decide (0<=(0:Int))&&decide ((0:Int)<=C)&&decide (C<=(I.length:Int))) <|
  aG (
   iter (X:=oW) (β:=Dp) (A.length+(B.natAbs+(C.natAbs+(List.length (List.drop 0 (List.take (Int.toNat C) I))+(Int.natAbs ((List.length (List.drop 0 (List.take (Int.toNat C) I)):Int))+(Int.natAbs (0:Int)+(D.length+(E.length+(F.length+(G.natAbs+(H.natAbs+(I.length+(y2.1.natAbs+(y2.2.1.length+(y2.2.2.1.1.natAbs+(y2.2.2.1.2.natAbs+(y2.2.2.2.1.length+(y2.2.2.2.2.1.1.natAbs+(y2.2.2.2.2.1.2.natAbs+(y2.2.2.2.2.2.natAbs+2)))))))))))))))))))) (A,B,C,List.drop 0 (List.take (Int.toNat C) I),(List.length (List.drop 0 (List.take (Int.toNat C) I)):Int),0,D,E,F,G,H,I,y2.1,y2.2.1,y2.2.2.1.1,y2.2.2.1.2,y2.2.2.2.1,y2.2.2.2.2.1.1,y2.2.2.2.2.1.2,y2.2.2.2.2.2,()) (tT)) fun (J,K,L,M,N,O,P,Q,R,_)=>
  again (J,K,w64 (L+1),M,N,O,P,Q,R,())
 else
  some (.inr (D,E,F,G,H,I,()))
def Dl (a0:ai):Option (Bool×Unit):=
 aG (
  iter (X:=oV) (β:=Dm) (a0.2.2.2.2.2.length+(Int.natAbs ((a0.2.2.2.2.2.length:Int))+(Int.natAbs (0:Int)+(a0.1.length+(a0.2.1.length+(a0.2.2.1.length+(a0.2.2.2.1.natAbs+(a0.2.2.2.2.1.natAbs+(a0.2.2.2.2.2.length+2))))))))) (a0.2.2.2.2.2,(a0.2.2.2.2.2.length:Int),0,a0.1,a0.2.1,a0.2.2.1,a0.2.2.2.1,a0.2.2.2.2.1,a0.2.2.2.2.2,()) (tP)) fun v7=>
 some (decide (((v7.2.2.2.2.2.1.length:Int))>100),())
def Cy:Option (Bool×Unit):=
 (Io [50,46,53]).bind fun r1=>
 (
  bif r1.2.1==0 then
   some (r1.1.1==25,())
  else
   some (false,())).bind fun v2=>
 some (v2.1,())
abbrev vu:Type:=(List av)×(List aT)×Int×Int×Unit
abbrev El:Type:=(((List av)×Unit) ⊕ ((List av)×Unit))
def Ar (x1:vu) (again:vu->Option El):Option El:=
 match x1 with
 | (A,B,C,D,_)=>
 bif decide (D<C) then
  (idx B D).bind fun y2=>
  chk (decide (((A.length)+1)*48<=140737488355328)&&decide ((A.length)+1<=maxLen)) <|
  again (A++[(y2.2.1,y2.2.2.2.1,y2.2.2.1)],B,C,w64 (D+1),())
 else
  some (.inr (A,()))
def EL (a0:ai):Option ((List av)×Unit):=
 aG (
  iter (X:=vu) (β:=El) (List.length ([]:List av)+(a0.2.2.2.2.2.length+(Int.natAbs ((a0.2.2.2.2.2.length:Int))+(Int.natAbs (0:Int)+2)))) ([],a0.2.2.2.2.2,(a0.2.2.2.2.2.length:Int),0,()) (Ar)) fun v3=>
 some (v3.1,())
abbrev fV:Type:=(List ff)×(List aa)×(List ff)×Int×Int×Bys×Bys×Bys×Int×Int×(List aT)×Bys×Bys×Int×Int×Int×Bool×(List aZ)×(List aI)×(List bY)×Unit
abbrev mO:Type:=((Bool×Unit) ⊕ ((List ff)×(List aa)×Bys×Bys×Bys×Int×Int×(List aT)×Bys×Bys×Int×Int×Int×Bool×(List aZ)×(List aI)×(List bY)×Unit))
def iZ (x1:fV) (again:fV->Option mO):Option mO:=
 match x1 with
 | (A,B,C,D,E,F,G,H,I,J,K,L,M,N,O,P,Q,R,S,T,_)=>
 bif decide (E<D) then
  (idx C E).bind fun y2=>
  chk (decide (((B.length)+1)*120<=140737488355328)&&decide ((B.length)+1<=maxLen)) <|
  again (A,B++[(I,2,w64 (E+1),9,y2.1,[],y2.2.1,[],(0,0),0,0)],C,D,w64 (E+1),F,G,H,I,J,K,L,M,N,O,P,Q,R,S,T,())
 else
  some (.inr (A,B,F,G,H,I,J,K,L,M,N,O,P,Q,R,S,T,()))
abbrev fW:Type:=(List ff)×(List aa)×(List ff)×Int×Int×Bys×Bys×Bys×Int×Int×(List aT)×Bys×Bys×Int×Int×Int×Bool×(List aZ)×(List aI)×(List bY)×Unit
abbrev mP:Type:=((Bool×Unit) ⊕ ((List ff)×(List aa)×Bys×Bys×Bys×Int×Int×(List aT)×Bys×Bys×Int×Int×Int×Bool×(List aZ)×(List aI)×(List bY)×Unit))
def ja (x1:fW) (again:fW->Option mP):Option mP:=
 match x1 with
 | (A,B,C,D,E,F,G,H,I,J,K,L,M,N,O,P,Q,R,S,T,_)=>
 bif decide (E<D) then
  (idx C E).bind fun y2=>
  chk (decide (((B.length)+1)*120<=140737488355328)&&decide ((B.length)+1<=maxLen)) <|
  again (A,B++[(w64 (I+1),1,w64 (E+1),10,y2.1,[],y2.2.1,[],(0,0),0,0)],C,D,w64 (E+1),F,G,H,I,J,K,L,M,N,O,P,Q,R,S,T,())
 else
  some (.inr (A,B,F,G,H,I,J,K,L,M,N,O,P,Q,R,S,T,()))
def kV (a0:ai) (a1:List av) (a2:Bys) (a3:Int) (a4:an):Option (Bool×Unit):=
 (jt a0).bind fun r1=>
 bif r1.1 != 0 then
  (Cy).bind fun r2=>
  some (r2.1,())
 else
  (Dl a0).bind fun r3=>
  bif r3.1 then
   (Cy).bind fun r4=>
   some (r4.1,())
  else
   (EL a0).bind fun r5=>
   (uB r5.1 a1 a2 a3).bind fun r6=>
   bif r6.2.1 != 0 then
    (
     bif ((r6.1.length:Int))==0 then
      Option.bind (Cy) fun r7=>
      some (r7.1,())
     else
      some (false,())).bind fun v8=>
    some (v8.1,())
   else
    (Dk ([100,45,49],a0.1,a0.2.2.2.1,r6.1)).bind fun r9=>
    (tC ([100,45,49],a0.1,a0.2.2.2.1,r6.1) r9.1).bind fun r10=>
    bif r10.2.1 != 0 then
     some (false,())
    else
     (Cy).bind fun r11=>
     bif !r11.1 then
      some (false,())
     else
      (pn a0 [] a0.2.2.2.1).bind fun r12=>
      bif r12.2.1 != 0 then
       some (false,())
      else
       (xJ r10.1 r12.1).bind fun r13=>
       bif r13.2.2.1 != 0 then
        some (false,())
       else
        bif ((r13.2.1.length:Int)) != 0 then
         some (false,())
        else
         bif ((r13.1.length:Int)) != ((a0.2.2.2.2.2.length:Int)) then
          some (false,())
         else
          aG (
           iter (X:=fV) (β:=mO) (r13.1.length+(List.length ([]:List aa)+(r13.1.length+(Int.natAbs ((r13.1.length:Int))+(Int.natAbs (0:Int)+(a0.1.length+(a0.2.1.length+(a0.2.2.1.length+(a0.2.2.2.1.natAbs+(a0.2.2.2.2.1.natAbs+(a0.2.2.2.2.2.length+(a4.1.length+(a4.2.1.length+(a4.2.2.1.natAbs+(a4.2.2.2.1.natAbs+(a4.2.2.2.2.1.natAbs+(a4.2.2.2.2.2.2.1.length+(a4.2.2.2.2.2.2.2.1.length+(a4.2.2.2.2.2.2.2.2.length+2))))))))))))))))))) (r13.1,[],r13.1,(r13.1.length:Int),0,a0.1,a0.2.1,a0.2.2.1,a0.2.2.2.1,a0.2.2.2.2.1,a0.2.2.2.2.2,a4.1,a4.2.1,a4.2.2.1,a4.2.2.2.1,a4.2.2.2.2.1,a4.2.2.2.2.2.1,a4.2.2.2.2.2.2.1,a4.2.2.2.2.2.2.2.1,a4.2.2.2.2.2.2.2.2,()) (iZ)) fun (A,B,C,D,E,F,G,H,I,J,K,L,M,N,O,P,Q,_)=>
          aG (
           iter (X:=fW) (β:=mP) (A.length+(B.length+(A.length+(Int.natAbs ((A.length:Int))+(Int.natAbs (0:Int)+(C.length+(D.length+(E.length+(F.natAbs+(G.natAbs+(H.length+(I.length+(J.length+(K.natAbs+(L.natAbs+(M.natAbs+(O.length+(P.length+(Q.length+2))))))))))))))))))) (A,B,A,(A.length:Int),0,C,D,E,F,G,H,I,J,K,L,M,N,O,P,Q,()) (ja)) fun (R,S,T,U,V,W,Y,Z,A0,B0,_,C0,D0,E0,F0,G0,H0,_)=>
          bif W==3652059 then
           some (true,())
          else
           bif decide ((w64 (2*((R.length:Int))))>2000) then
            some (true,())
           else
            (oH (T,U,V,W,Y,Z) S).bind fun r20=>
            bif r20.2.1 != 0 then
             some (false,())
            else
             bif ((r20.1.length:Int)) != 0 then
              some (false,())
             else
              (Aj (T,U,V,W,Y,Z) S W).bind fun r21=>
              bif r21.2.1 != 0 then
               some (false,())
              else
               bif !r21.1 then
                some (false,())
               else
                (AS (T,U,V,W,Y,Z) S [105,45,49] (A0,B0,w64 (W+1),C0,D0,E0,F0,G0,H0)).bind fun r22=>
                bif r22.2.1 != 0 then
                 (iE (A0,B0,w64 (W+1),C0,D0,E0,F0,G0,H0)).bind fun r23=>
                 some (r23.1 != 0,())
                else
                 (z7 (T,U,V,W,Y,Z) S (0,0) [r22.1,([105,45,50],r22.1.2)]).bind fun r24=>
                 (
                  bif r24.2.1==0 then
                   bif ((r24.1.length:Int))==((r22.1.2.2.2.2.2.2.2.1.length:Int)) then
                    some (((r22.1.2.2.2.2.2.2.2.1.length:Int))==((Z.length:Int)),())
                   else
                    some (false,())
                  else
                   some (false,())).bind fun v25=>
                 some (v25.1,())
end
end Go.Md
end
