/-
  The plain models of the functions that the laws reach, fourth part. No condition.
-/
import Derived.Test.YtcpmaicaibdafaaGreatDoorZo
import Derived.Test.YtcpmaicaibdafaaGreatDoorZd
set_option linter.all false
noncomputable section
namespace Go.Md
open Go.Dn
abbrev slices_Sort_int (l:List Int):Option (List Int×Unit):=aga l
noncomputable section
abbrev gQ:Type:=aF×Int×Int×(List aX)
abbrev jF:Type:=(List (Option Nat))×Int×Int×Bys×Bys×Bys×Int×Int×(List bC)×(List aj)×Int×(List Int)×(List ai)×(List aX)×(List (Int×(Option Nat)))×Unit
abbrev mA:Type:=(((List (Option Nat))×(av×(List aj)×(List (Int×(Option Nat)))×(List ai)×(List aX)×Int×Unit)×Unit) ⊕ ((List (Option Nat))×Bys×Bys×Bys×Int×Int×(List bC)×(List aj)×Int×(List ai)×(List aX)×(List (Int×(Option Nat)))×Unit))
def mz (x1:jF) (again:jF→Option mA):Option mA:=
 match x1 with
 | (A,B,C,D,E,F,G,H,I,J,K,L,M,N,O,_)=>
 bif decide (C<B) then
  chk (decide (0≤C)&&decide (C<(L.length:Int))) <|
  (L[C.toNat]?).bind fun y2=>
  chk (decide (((A.length)+1)*8≤140737488355328)&&decide ((A.length)+1≤maxLen)) <|
  again (A++[(Option.getD (α:=Option Nat) (cz (k:=tI) (v:= .hnd) O y2) none)],B,w64 (C+1),D,E,F,G,H,I,J,K,L,M,N,O,())
 else
  some (.inr (A,D,E,F,G,H,I,J,K,M,N,O,()))
def o9 (a0:av×(List aj)×(List (Int×(Option Nat)))×(List ai)×(List aX)×Int×Unit):Option ((List (Option Nat))×(av×(List aj)×(List (Int×(Option Nat)))×(List ai)×(List aX)×Int×Unit)×Unit):=
 chk (N6 a0.2.2.1) <|
 aT (
  iter (X:=jF) (β:=mA) (List.length ([]:List (Option Nat))+(Int.natAbs ((List.length (zJ a0.2.2.1):Int))+(Int.natAbs (0:Int)+(a0.1.1.length+(a0.1.2.1.length+(a0.1.2.2.1.length+(a0.1.2.2.2.1.natAbs+(a0.1.2.2.2.2.1.natAbs+(a0.1.2.2.2.2.2.length+(a0.2.1.length+(a0.2.2.2.2.2.1.natAbs+(List.length ((zJ a0.2.2.1):List Int)+(a0.2.2.2.1.length+(a0.2.2.2.2.1.length+(a0.2.2.1.length+2))))))))))))))) ([],(List.length (zJ a0.2.2.1):Int),0,a0.1.1,a0.1.2.1,a0.1.2.2.1,a0.1.2.2.2.1,a0.1.2.2.2.2.1,a0.1.2.2.2.2.2,a0.2.1,a0.2.2.2.2.2.1,zJ a0.2.2.1,a0.2.2.2.1,a0.2.2.2.2.1,a0.2.2.1,()) (mz)) fun (A,B,C,D,E,F,G,H,I,J,K,L,_)=>
 some (A,((B,C,D,E,F,G),H,L,J,K,I,()),())
abbrev qP:Type:=(List aF)×Int×Int×(List (Option Nat))×(List bA)×Unit
abbrev vU:Type:=(((List aF)×Int×Unit) ⊕ ((List aF)×(List bA)×Unit))
def vT (x1:qP) (again:qP→Option vU):Option vU:=
 match x1 with
 | (A,B,C,D,E,_)=>
 bif decide (C<B) then
  chk (decide (0≤C)&&decide (C<(D.length:Int))) <|
  (D[C.toNat]?).bind fun y2=>
  (nP y2 E).bind fun r3=>
  chk (decide (((A.length)+1)*144≤140737488355328)&&decide ((A.length)+1≤maxLen)) <|
  again (A++[r3.1],B,w64 (C+1),D,E,())
 else
  some (.inr (A,E,()))
def sd (a0:av) (a1:List aj) (a2:Int):Option ((List aF)×Int×Unit):=
 Tg (F3 a0 a1 a2 []) (fun r1=>
  bif r1.2.1 != 0 then
   some ([],r1.2.1,())
  else
   none) (
  (LC a0 a1 a2 []).bind fun r2=>
  bif r2.2.1 != 0 then
   some ([],r2.2.1,())
  else
   (o9 (r2.1.1,r2.1.2.1,r2.1.2.2.1,r2.1.2.2.2.1,r2.1.2.2.2.2.1,r2.1.2.2.2.2.2.1,())).bind fun r3=>
   aT (
    iter (X:=qP) (β:=vU) (List.length ([]:List aF)+(Int.natAbs ((r3.1.length:Int))+(Int.natAbs (0:Int)+(r3.1.length+(r2.2.2.1.length+2))))) ([],(r3.1.length:Int),0,r3.1,r2.2.2.1,()) (vT)) fun v7=>
   some (v7.1,0,()))
end
end Go.Md
namespace Go.Md
open Go.Dn
end Go.Md
namespace Go.Md
open Go.Dn
abbrev ki:Type:=(List ai)×Int×Int×Unit
abbrev nk:Type:=((Int×Unit) ⊕ Unit)
def nj (x1:ki) (again:ki→Option nk):Option nk:=
 bif decide (x1.2.2.1<x1.2.1) then
  (idx x1.1 x1.2.2.1).bind fun y2=>
  (cu y2).bind fun r3=>
  bif r3.1 != 0 then
   some (.inl (r3.1,()))
  else
   again (x1.1,x1.2.1,w64 (x1.2.2.1+1),())
 else
  some (.inr ())
def pX (a0:List ai):Option (Int×Unit):=
 aT (
  iter (X:=ki) (β:=nk) (a0.length+(Int.natAbs ((a0.length:Int))+(Int.natAbs (0:Int)+2))) (a0,(a0.length:Int),0,()) (nj)) fun _=>
 some (0,())
abbrev wD:Type:=(List ai)×Int×(List ai)×Int×Int×Int×Int×Unit
abbrev AX:Type:=((ai×Int×Unit) ⊕ ((List ai)×Int×Int×Int×Unit))
def AW (x1:wD) (again:wD→Option AX):Option AX:=
 match x1 with
 | (A,B,C,D,E,F,G,_)=>
 bif decide (E<D) then
  (idx C E).bind fun y2=>
  again (A,if y2.2>B then y2.2 else B,C,D,w64 (E+1),F,G,())
 else
  some (.inr (A,B,F,G,()))
abbrev uD:Type:=Int×(List ai)×Int×Int×Int×Int×Bool×(List Int)×Unit
abbrev zw:Type:=((ai×Int×Unit) ⊕ (Int×Int×Int×Bool×(List Int)×Unit))
def zu (x1:uD) (again:uD→Option zw):Option zw:=
 match x1 with
 | (A,B,C,D,E,F,G,H,_)=>
 bif decide (D<C) then
  (idx B D).bind fun y2=>
  (mQ y2 A).bind fun r3=>
  (bf (G,H) r3.1).bind fun r4=>
  again (A,B,C,w64 (D+1),E,F,r4.1.1,r4.1.2,())
 else
  some (.inr (A,E,F,G,H,()))
def zq (a0:List ai):Option (ai×Int×Unit):=
 bif decide (((a0.length:Int))>1000) then
  some ((0,0),2,())
 else
  (pX a0).bind fun r1=>
  bif r1.1 != 0 then
   some ((0,0),r1.1,())
  else
   aT (
    iter (X:=wD) (β:=AX) (a0.length+(Int.natAbs (0:Int)+(a0.length+(Int.natAbs ((a0.length:Int))+(Int.natAbs (0:Int)+(Int.natAbs (0:Int)+(Int.natAbs (0:Int)+2))))))) (a0,0,a0,(a0.length:Int),0,0,0,()) (AW)) fun (A,B,C,D,_)=>
   (bJ 0).bind fun r5=>
   aT (
    iter (X:=uD) (β:=zw) (B.natAbs+(A.length+(Int.natAbs ((A.length:Int))+(Int.natAbs (0:Int)+(C.natAbs+(D.natAbs+(r5.1.2.length+2))))))) (B,A,(A.length:Int),0,C,D,r5.1.1,r5.1.2,()) (zu)) fun (E,_,_,F,G,_)=>
   (oa (F,G) E).bind fun r11=>
   some (r11.1,r11.2.1,())
abbrev jI:Type:=(List iM)×(List iM)×Int×Int×Unit
abbrev mD:Type:=((Bool×Unit) ⊕ Unit)
def mC (x1:jI) (again:jI→Option mD):Option mD:=
 match x1 with
 | (A,B,C,D,_)=>
 bif decide (D<C) then
  (idx A D).bind fun y2=>
  (idx B D).bind fun y3=>
  bif !((y2.1==y3.1)&&(((y2.2.1.1==y3.2.1.1)&&((y2.2.1.2==y3.2.1.2)&&true))&&((y2.2.2==y3.2.2)&&true))) then
   some (.inl (false,()))
  else
   again (A,B,C,w64 (D+1),())
 else
  some (.inr ())
def pn (a0:List iM) (a1:List iM):Option (Bool×Unit):=
 bif ((a0.length:Int)) != ((a1.length:Int)) then
  some (false,())
 else
  aT (
   iter (X:=jI) (β:=mD) (a0.length+(a1.length+(Int.natAbs ((a0.length:Int))+(Int.natAbs (0:Int)+2)))) (a0,a1,(a0.length:Int),0,()) (mC)) fun _=>
  some (true,())
end Go.Md
set_option linter.all false
namespace Go.Md
open Go.Dn
abbrev aH:Ty:=(.st (.pair tI tI))
abbrev bw:Type:=Int×Int
abbrev lR:Ty:=(.st (.pair tI (.pair tI tI)))
abbrev cQ:Type:=Int×Int×Int
def nw (a0:bw):Option (Int×Unit):=
 (b8 a0.1 0 1000).bind fun r1=>
 bif r1.1 then
  some (1,())
 else
  (b8 a0.2 0 1000).bind fun r2=>
  bif r2.1 then
   some (1,())
  else
   some (0,())
abbrev sA:Type:=(List aj)×(List ah)×(List ah)×Int×Int×Bys×Bys×Bys×Int×Int×(List bC)×Int×Int×Unit
abbrev sw:Type:=(((av×(List aj)×bw×(List ah)×(List (Int×(List aF)))×(List (Int×aa))×(List cQ)×Unit)×Int×Unit) ⊕ ((List aj)×(List ah)×Bys×Bys×Bys×Int×Int×(List bC)×Int×Int×Unit))
def oB (x1:sA) (again:sA→Option sw):Option sw:=
 match x1 with
 | (A,B,C,D,E,F,G,H,I,J,K,L,M,_)=>
 bif decide (E<D) then
  (idx C E).bind fun y2=>
  (fS y2).bind fun r3=>
  bif r3.1 != 0 then
   none
  else
   (
    bif decide (E>0) then
     Option.bind (idx B (w64 (E - 1))) fun y4=>
     some (decide (y2.2.2.1<y4.2.2.1),())
    else
     some (false,())).bind fun v5=>
   bif v5.1 then
    none
   else
    again (A,B,C,D,w64 (E+1),F,G,H,I,J,K,L,M,())
 else
  some (.inr (A,B,F,G,H,I,J,K,L,M,()))
def zy (a0:av) (a1:List aj) (a2:bw) (a3:List ah):Option ((av×(List aj)×bw×(List ah)×(List (Int×(List aF)))×(List (Int×aa))×(List cQ)×Unit)×Int×Unit):=
 (lC a0).bind fun r1=>
 bif r1.1 != 0 then
  none
 else
  (nO a1).bind fun r2=>
  bif r2.1 != 0 then
   none
  else
   (nw a2).bind fun r3=>
   bif r3.1 != 0 then
    none
   else
    bif decide (((a3.length:Int))>200) then
     none
    else
     aT (
      iter (X:=sA) (β:=sw) (a1.length+(a3.length+(a3.length+(Int.natAbs ((a3.length:Int))+(Int.natAbs (0:Int)+(a0.1.length+(a0.2.1.length+(a0.2.2.1.length+(a0.2.2.2.1.natAbs+(a0.2.2.2.2.1.natAbs+(a0.2.2.2.2.2.length+(a2.1.natAbs+(a2.2.natAbs+2))))))))))))) (a1,a3,a3,(a3.length:Int),0,a0.1,a0.2.1,a0.2.2.1,a0.2.2.2.1,a0.2.2.2.2.1,a0.2.2.2.2.2,a2.1,a2.2,()) (oB)) fun (A,B,C,D,E,F,G,H,I,J,_)=>
     some (((C,D,E,F,G,H),A,(I,J),B,[],[],[],()),0,())
abbrev p8:Type:=(List aj)×(List ah)×(List ah)×Int×Int×Bys×Bys×Bys×Int×Int×(List bC)×Int×Int×Unit
abbrev pZ:Type:=(((Option Nat)×Int×Unit) ⊕ ((List aj)×(List ah)×Bys×Bys×Bys×Int×Int×(List bC)×Int×Int×Unit))
def mc (x1:p8) (again:p8→Option pZ):Option pZ:=
 match x1 with
 | (A,B,C,D,E,F,G,H,I,J,K,L,M,_)=>
 bif decide (E<D) then
  (idx C E).bind fun y2=>
  (fS y2).bind fun r3=>
  bif r3.1 != 0 then
   some (.inl (none,r3.1,()))
  else
   (
    bif decide (E>0) then
     Option.bind (idx B (w64 (E - 1))) fun y4=>
     some (decide (y2.2.2.1<y4.2.2.1),())
    else
     some (false,())).bind fun v5=>
   bif v5.1 then
    some (.inl (none,8,()))
   else
    again (A,B,C,D,w64 (E+1),F,G,H,I,J,K,L,M,())
 else
  some (.inr (A,B,F,G,H,I,J,K,L,M,()))
def vz (a0:av) (a1:List aj) (a2:bw) (a3:List ah):Option ((Option Nat)×Int×Unit):=
 (lC a0).bind fun r1=>
 bif r1.1 != 0 then
  some (none,r1.1,())
 else
  (nO a1).bind fun r2=>
  bif r2.1 != 0 then
   some (none,r2.1,())
  else
   (nw a2).bind fun r3=>
   bif r3.1 != 0 then
    some (none,r3.1,())
   else
    bif decide (((a3.length:Int))>200) then
     some (none,2,())
    else
     aT (
      iter (X:=p8) (β:=pZ) (a1.length+(a3.length+(a3.length+(Int.natAbs ((a3.length:Int))+(Int.natAbs (0:Int)+(a0.1.length+(a0.2.1.length+(a0.2.2.1.length+(a0.2.2.2.1.natAbs+(a0.2.2.2.2.1.natAbs+(a0.2.2.2.2.2.length+(a2.1.natAbs+(a2.2.natAbs+2))))))))))))) (a1,a3,a3,(a3.length:Int),0,a0.1,a0.2.1,a0.2.2.1,a0.2.2.2.1,a0.2.2.2.2.1,a0.2.2.2.2.2,a2.1,a2.2,()) (mc)) fun _=>
     none
def jb (a0:Int) (a1:Int) (a2:av×(List aj)×bw×(List ah)×(List (Int×(List aF)))×(List (Int×aa))×(List cQ)×Unit) (a3:Int×Unit):Option ((av×(List aj)×bw×(List ah)×(List (Int×(List aF)))×(List (Int×aa))×(List cQ)×Unit)×(Int×Unit)×Unit):=
 chk (decide (((a2.2.2.2.2.2.2.1.length)+1)*24≤140737488355328)&&decide ((a2.2.2.2.2.2.2.1.length)+1≤maxLen)) <|
 some ((a2.1,a2.2.1,a2.2.2.1,a2.2.2.2.1,a2.2.2.2.2.1,a2.2.2.2.2.2.1,a2.2.2.2.2.2.2.1++[(a3.1,a0,a1)],()),(a3.1,()),())
def tw (a0:ah) (a1:ah):Option (Bool×Unit):=
 some (a0.1==a1.1,())
abbrev gd:Type:=(List ah)×ah×Int×Int×Unit
abbrev fZ:Type:=((Int×Unit) ⊕ Unit)
def fW (x1:gd) (again:gd→Option fZ):Option fZ:=
 match x1 with
 | (A,B,C,D,_)=>
 bif decide (D<C) then
  (idx A D).bind fun y2=>
  (tw y2 B).bind fun r3=>
  bif r3.1 then
   some (.inl (D,()))
  else
   again (A,B,C,w64 (D+1),())
 else
  some (.inr ())
def nR (a0:List ah) (a1:ah):Option (Int×Unit):=
 aT (
  iter (X:=gd) (β:=fZ) (a0.length+(Int.natAbs ((a0.length:Int))+(Int.natAbs (0:Int)+2))) (a0,a1,(a0.length:Int),0,()) (fW)) fun _=>
 some ((-1),())
def iW (a0:List ah) (a1:ah):Option (Bool×Unit):=
 (nR a0 a1).bind fun r1=>
 some (decide (r1.1≥0),())
def lH (a0:av×(List aj)×bw×(List ah)×(List (Int×(List aF)))×(List (Int×aa))×(List cQ)×Unit) (a1:Int):Option ((List aF)×(av×(List aj)×bw×(List ah)×(List (Int×(List aF)))×(List (Int×aa))×(List cQ)×Unit)×Unit):=
 bif !(Option.isSome (cz (k:=tI) (v:=(.slice cc)) a0.2.2.2.2.1 a1)) then
  (sd a0.1 a0.2.1 a1).bind fun r1=>
  some (r1.1,(a0.1,a0.2.1,a0.2.2.1,a0.2.2.2.1,nM (k:=tI) (v:=(.slice cc)) a0.2.2.2.2.1 a1 r1.1,a0.2.2.2.2.2.1,a0.2.2.2.2.2.2.1,()),())
 else
  some (Option.getD (α:=List aF) (cz (k:=tI) (v:=(.slice cc)) a0.2.2.2.2.1 a1) [],(a0.1,a0.2.1,a0.2.2.1,a0.2.2.2.1,a0.2.2.2.2.1,a0.2.2.2.2.2.1,a0.2.2.2.2.2.2.1,()),())
def xm (a0:aF) (a1:au):Option (Bool×Unit):=
 some (a0.1==a1.2.1,())
abbrev jv:Type:=(List aF)×au×Int×Int×Unit
abbrev jt:Type:=((Int×Unit) ⊕ Unit)
def ic (x1:jv) (again:jv→Option jt):Option jt:=
 match x1 with
 | (A,B,C,D,_)=>
 bif decide (D<C) then
  (idx A D).bind fun y2=>
  (xm y2 B).bind fun r3=>
  bif r3.1 then
   some (.inl (D,()))
  else
   again (A,B,C,w64 (D+1),())
 else
  some (.inr ())
def kX (a0:List aF) (a1:au):Option (Int×Unit):=
 aT (
  iter (X:=jv) (β:=jt) (a0.length+(Int.natAbs ((a0.length:Int))+(Int.natAbs (0:Int)+2))) (a0,a1,(a0.length:Int),0,()) (ic)) fun _=>
 some ((-1),())
def Ev (a0:aa) (a1:Int):Option (aa×Unit):=
 (bJ (w64 (1000+a1))).bind fun r1=>
 (dx a0 r1.1).bind fun r2=>
 some (r2.1,())
def B5 (a0:aF):Option (aa×Unit):=
 (l8 a0.2.2.2.2.2.2.2.1).bind fun r1=>
 (l8 a0.2.2.2.2.2.2.2.2.1).bind fun r2=>
 (qC r1.1 r2.1).bind fun r3=>
 some (r3.1,())
def ur (a0:av×(List aj)×bw×(List ah)×(List (Int×(List aF)))×(List (Int×aa))×(List cQ)×Unit) (a1:Int) (a2:au):Option (Int×(av×(List aj)×bw×(List ah)×(List (Int×(List aF)))×(List (Int×aa))×(List cQ)×Unit)×Unit):=
 (lH (a0.1,a0.2.1,a0.2.2.1,a0.2.2.2.1,a0.2.2.2.2.1,a0.2.2.2.2.2.1,a0.2.2.2.2.2.2.1,()) a1).bind fun r1=>
 (kX r1.1 a2).bind fun r2=>
 bif decide (r2.1<0) then
  some (3,(r1.2.1.1,r1.2.1.2.1,r1.2.1.2.2.1,r1.2.1.2.2.2.1,r1.2.1.2.2.2.2.1,r1.2.1.2.2.2.2.2.1,r1.2.1.2.2.2.2.2.2.1,()),())
 else
  (idx r1.1 r2.1).bind fun y3=>
  bif !(y3.2.1==a2.2.2.1) then
   some (4,(r1.2.1.1,r1.2.1.2.1,r1.2.1.2.2.1,r1.2.1.2.2.2.1,r1.2.1.2.2.2.2.1,r1.2.1.2.2.2.2.2.1,r1.2.1.2.2.2.2.2.2.1,()),())
  else
   bif !(y3.2.2.1==a2.2.2.2.2.1) then
    some (4,(r1.2.1.1,r1.2.1.2.1,r1.2.1.2.2.1,r1.2.1.2.2.2.1,r1.2.1.2.2.2.2.1,r1.2.1.2.2.2.2.2.1,r1.2.1.2.2.2.2.2.2.1,()),())
   else
    (l8 a2.2.2.2.2.2.1).bind fun r4=>
    (bJ 1000).bind fun r5=>
    (dx r4.1 r5.1).bind fun r6=>
    (l8 y3.2.2.2.2.1).bind fun r7=>
    (Ev r7.1 r1.2.1.2.2.1.1).bind fun r8=>
    (bJ a2.2.2.2.2.2.2.1).bind fun r9=>
    (dx r8.1 r9.1).bind fun r10=>
    (kH r6.1 r10.1).bind fun r11=>
    bif decide (r11.1>0) then
     some (5,(r1.2.1.1,r1.2.1.2.1,r1.2.1.2.2.1,r1.2.1.2.2.2.1,r1.2.1.2.2.2.2.1,r1.2.1.2.2.2.2.2.1,r1.2.1.2.2.2.2.2.2.1,()),())
    else
     (l8 a2.2.2.2.1).bind fun r12=>
     (bf (Option.getD (α:=aa) (cz (k:=tI) (v:=aq) r1.2.1.2.2.2.2.2.1 a2.2.1) (false,[])) r12.1).bind fun r13=>
     (aG r13.1).bind fun r14=>
     bif decide (r14.1<0) then
      some (6,(r1.2.1.1,r1.2.1.2.1,r1.2.1.2.2.1,r1.2.1.2.2.2.1,r1.2.1.2.2.2.2.1,r1.2.1.2.2.2.2.2.1,r1.2.1.2.2.2.2.2.2.1,()),())
     else
      (bJ 1000).bind fun r15=>
      (dx r13.1 r15.1).bind fun r16=>
      (B5 y3).bind fun r17=>
      (Ev r17.1 r1.2.1.2.2.1.2).bind fun r18=>
      (kH r16.1 r18.1).bind fun r19=>
      bif decide (r19.1>0) then
       some (6,(r1.2.1.1,r1.2.1.2.1,r1.2.1.2.2.1,r1.2.1.2.2.2.1,r1.2.1.2.2.2.2.1,r1.2.1.2.2.2.2.2.1,r1.2.1.2.2.2.2.2.2.1,()),())
      else
       some (0,(r1.2.1.1,r1.2.1.2.1,r1.2.1.2.2.1,r1.2.1.2.2.2.1,r1.2.1.2.2.2.2.1,r1.2.1.2.2.2.2.2.1,r1.2.1.2.2.2.2.2.2.1,()),())
abbrev nr:Type:=(List au)×Int×Int×Int×Bys×Bys×Int×Int×Int×Bool×(List aD)×(List au)×(List ax)×Bys×Bys×Bys×Int×Int×(List bC)×(List aj)×Int×Int×(List ah)×(List (Int×(List aF)))×(List (Int×aa))×(List cQ)×Unit
abbrev nq:Type:=(((av×(List aj)×bw×(List ah)×(List (Int×(List aF)))×(List (Int×aa))×(List cQ)×Unit)×Unit) ⊕ (Bys×Bys×Bys×Int×Int×(List bC)×(List aj)×Int×Int×(List ah)×(List (Int×(List aF)))×(List (Int×aa))×(List cQ)×Unit))
def kj (x1:nr) (again:nr→Option nq):Option nq:=
 match x1 with
 | (A,B,C,D,E,F,G,H,I,J,K,L,M,N,O,P,Q,R,S,T,U,V,W,X,Y,Z,_)=>
 bif decide (C<B) then
  (idx A C).bind fun y2=>
  (ur ((N,O,P,Q,R,S),T,(U,V),W,X,Y,Z,()) G y2).bind fun r3=>
  bif r3.1 != 0 then
   (jb C r3.1 (r3.2.1.1,r3.2.1.2.1,r3.2.1.2.2.1,r3.2.1.2.2.2.1,r3.2.1.2.2.2.2.1,r3.2.1.2.2.2.2.2.1,r3.2.1.2.2.2.2.2.2.1,()) (D,())).bind fun r4=>
   again (A,B,w64 (C+1),r4.2.1.1,E,F,G,H,I,J,K,L,M,r4.1.1.1,r4.1.1.2.1,r4.1.1.2.2.1,r4.1.1.2.2.2.1,r4.1.1.2.2.2.2.1,r4.1.1.2.2.2.2.2,r4.1.2.1,r4.1.2.2.1.1,r4.1.2.2.1.2,r4.1.2.2.2.1,r4.1.2.2.2.2.1,r4.1.2.2.2.2.2.1,r4.1.2.2.2.2.2.2.1,())
  else
   (l8 y2.2.2.2.1).bind fun r5=>
   (bf (Option.getD (α:=aa) (cz (k:=tI) (v:=aq) r3.2.1.2.2.2.2.2.1 y2.2.1) (false,[])) r5.1).bind fun r6=>
   again (A,B,w64 (C+1),D,E,F,G,H,I,J,K,L,M,r3.2.1.1.1,r3.2.1.1.2.1,r3.2.1.1.2.2.1,r3.2.1.1.2.2.2.1,r3.2.1.1.2.2.2.2.1,r3.2.1.1.2.2.2.2.2,r3.2.1.2.1,r3.2.1.2.2.1.1,r3.2.1.2.2.1.2,r3.2.1.2.2.2.1,r3.2.1.2.2.2.2.1,nM (k:=tI) (v:=aq) r3.2.1.2.2.2.2.2.1 y2.2.1 r6.1,r3.2.1.2.2.2.2.2.2.1,())
 else
  some (.inr (N,O,P,Q,R,S,T,U,V,W,X,Y,Z,()))
def me (a0:av×(List aj)×bw×(List ah)×(List (Int×(List aF)))×(List (Int×aa))×(List cQ)×Unit) (a1:Int):Option ((av×(List aj)×bw×(List ah)×(List (Int×(List aF)))×(List (Int×aa))×(List cQ)×Unit)×Unit):=
 (idx a0.2.2.2.1 a1).bind fun y1=>
 bif !(y1.2.1==a0.1.1) then
  (jb (-1) 1 (a0.1,a0.2.1,a0.2.2.1,a0.2.2.2.1,a0.2.2.2.2.1,a0.2.2.2.2.2.1,a0.2.2.2.2.2.2.1,()) (a1,())).bind fun r2=>
  some ((r2.1.1,r2.1.2.1,r2.1.2.2.1,r2.1.2.2.2.1,r2.1.2.2.2.2.1,r2.1.2.2.2.2.2.1,r2.1.2.2.2.2.2.2.1,()),())
 else
  chk (decide (0≤(0:Int))&&decide ((0:Int)≤a1)&&decide (a1≤(a0.2.2.2.1.length:Int))) <|
  (iW (List.drop 0 (List.take (Int.toNat a1) a0.2.2.2.1)) y1).bind fun r3=>
  bif r3.1 then
   (jb (-1) 2 (a0.1,a0.2.1,a0.2.2.1,a0.2.2.2.1,a0.2.2.2.2.1,a0.2.2.2.2.2.1,a0.2.2.2.2.2.2.1,()) (a1,())).bind fun r4=>
   some ((r4.1.1,r4.1.2.1,r4.1.2.2.1,r4.1.2.2.2.1,r4.1.2.2.2.2.1,r4.1.2.2.2.2.2.1,r4.1.2.2.2.2.2.2.1,()),())
  else
   aT (
    iter (X:=nr) (β:=nq) (y1.2.2.2.2.2.2.2.1.length+(Int.natAbs ((y1.2.2.2.2.2.2.2.1.length:Int))+(Int.natAbs (0:Int)+(a1.natAbs+(y1.1.length+(y1.2.1.length+(y1.2.2.1.natAbs+(y1.2.2.2.1.natAbs+(y1.2.2.2.2.1.natAbs+(y1.2.2.2.2.2.2.1.length+(y1.2.2.2.2.2.2.2.1.length+(y1.2.2.2.2.2.2.2.2.length+(a0.1.1.length+(a0.1.2.1.length+(a0.1.2.2.1.length+(a0.1.2.2.2.1.natAbs+(a0.1.2.2.2.2.1.natAbs+(a0.1.2.2.2.2.2.length+(a0.2.1.length+(a0.2.2.1.1.natAbs+(a0.2.2.1.2.natAbs+(a0.2.2.2.1.length+(a0.2.2.2.2.1.length+(a0.2.2.2.2.2.1.length+(a0.2.2.2.2.2.2.1.length+2))))))))))))))))))))))))) (y1.2.2.2.2.2.2.2.1,(y1.2.2.2.2.2.2.2.1.length:Int),0,a1,y1.1,y1.2.1,y1.2.2.1,y1.2.2.2.1,y1.2.2.2.2.1,y1.2.2.2.2.2.1,y1.2.2.2.2.2.2.1,y1.2.2.2.2.2.2.2.1,y1.2.2.2.2.2.2.2.2,a0.1.1,a0.1.2.1,a0.1.2.2.1,a0.1.2.2.2.1,a0.1.2.2.2.2.1,a0.1.2.2.2.2.2,a0.2.1,a0.2.2.1.1,a0.2.2.1.2,a0.2.2.2.1,a0.2.2.2.2.1,a0.2.2.2.2.2.1,a0.2.2.2.2.2.2.1,()) (kj)) fun (A,B,C,D,E,F,G,H,I,J,K,L,M,_)=>
   some (((A,B,C,D,E,F),G,(H,I),J,K,L,M,()),())
abbrev yO:Type:=Int×Int×Int×Unit
abbrev C8:Type:=((Int×Unit) ⊕ (Int×Unit))
def C7 (x1:yO) (again:yO→Option C8):Option C8:=
 bif decide (x1.2.2.1<x1.2.1) then
  again (w64 (x1.1*10),x1.2.1,w64 (x1.2.2.1+1),())
 else
  some (.inr (x1.1,()))
def yN (a0:bw):Option (Int×Unit):=
 aT (
  iter (X:=yO) (β:=C8) (a0.1.natAbs+(Int.natAbs (w64 (3 - a0.2))+(Int.natAbs (0:Int)+2))) (a0.1,w64 (3 - a0.2),0,()) (C7)) fun v2=>
 some (v2.1,())
def aaf (a0:aF):Option (Int×Unit):=
 (yN a0.2.2.2.2.2.2.2.1).bind fun r1=>
 (yN a0.2.2.2.2.2.2.2.2.1).bind fun r2=>
 some (w64 (r1.1 - r2.1),())
def fR (a0:List aD):Option ((List aD)×Unit):=
 bif List.isEmpty a0 then
  both (
   some ([],())) (
   chk (decide ((0+(a0.length))*32≤140737488355328)&&decide (0+(a0.length)≤maxLen)) <|
   some (a0,()))
 else
  chk (decide ((0+(a0.length))*32≤140737488355328)&&decide (0+(a0.length)≤maxLen)) <|
  some (a0,())
abbrev xR:Type:=(List aF)×Int×Int×Bys×Bys×Int×Int×Int×Bool×(List aD)×(List au)×(List ax)×Bys×Bys×Int×Int×Int×Bool×(List aD)×(List au)×(List ax)×Bys×Bys×Int×Int×Int×Bool×(List au)×(List ax)×(List aD)×Unit
abbrev xQ:Type:=((ah×Int×Unit) ⊕ (Bys×Bys×Int×Int×Int×Bool×(List aD)×(List au)×(List ax)×Bys×Bys×Int×Int×Int×Bool×(List au)×(List ax)×(List aD)×Unit))
def su (x1:xR) (again:xR→Option xQ):Option xQ:=
 match x1 with
 | (A,B,C,D,E,F,G,H,I,J,K,L,M,N,O,P,Q,R,S,T,U,V,W,X,Y,Z,A0,B0,C0,D0,_)=>
 bif decide (C<B) then
  (idx A C).bind fun y2=>
  (B5 y2).bind fun r3=>
  (aG r3.1).bind fun r4=>
  bif decide (r4.1≤0) then
   again (A,B,w64 (C+1),D,E,F,G,H,I,J,K,L,M,N,O,P,Q,R,S,T,U,V,W,X,Y,Z,A0,B0,C0,D0,())
  else
   (pE r3.1 9).bind fun r5=>
   bif r5.2.1 != 0 then
    some (.inl (([],[],0,0,0,false,[],[],[]),r5.2.1,()))
   else
    (idx J 0).bind fun y6=>
    chk (decide (((B0.length)+1)*128≤140737488355328)&&decide ((B0.length)+1≤maxLen)) <|
    again (A,B,w64 (C+1),D,E,F,G,H,I,J,K,L,M,N,O,P,Q,R,S,T,U,V,W,X,Y,Z,A0,B0++[(w64 (((B0.length:Int))+1),y2.1,y2.2.1,r5.1,y2.2.2.1,y2.2.2.2.2.1,1,[],y6.1)],C0,D0,())
 else
  some (.inr (M,N,O,P,Q,R,S,T,U,V,W,X,Y,Z,A0,B0,C0,D0,()))
def Ej (a0:av) (a1:List aj) (a2:Bys) (a3:ah):Option (ah×Int×Unit):=
 (lC a0).bind fun r1=>
 bif r1.1 != 0 then
  some (([],[],0,0,0,false,[],[],[]),r1.1,())
 else
  (sd a0 a1 3652059).bind fun r2=>
  bif r2.2.1 != 0 then
   some (([],[],0,0,0,false,[],[],[]),r2.2.1,())
  else
   (dI a2).bind fun r3=>
   bif !r3.1 then
    some (([],[],0,0,0,false,[],[],[]),5,())
   else
    (fS a3).bind fun r4=>
    bif r4.1 != 0 then
     some (([],[],0,0,0,false,[],[],[]),r4.1,())
    else
     (fR a3.2.2.2.2.2.2.1).bind fun r5=>
     aT (
      iter (X:=xR) (β:=xQ) (r2.1.length+(Int.natAbs ((r2.1.length:Int))+(Int.natAbs (0:Int)+(a3.1.length+(a3.2.1.length+(a3.2.2.1.natAbs+(a3.2.2.2.1.natAbs+(a3.2.2.2.2.1.natAbs+(a3.2.2.2.2.2.2.1.length+(a3.2.2.2.2.2.2.2.1.length+(a3.2.2.2.2.2.2.2.2.length+(List.length ([]:Bys)+(List.length ([]:Bys)+(Int.natAbs (0:Int)+(Int.natAbs (0:Int)+(Int.natAbs (0:Int)+(List.length ([]:List aD)+(List.length ([]:List au)+(List.length ([]:List ax)+(a2.length+(a0.1.length+(a3.2.2.1.natAbs+(a3.2.2.2.1.natAbs+(a3.2.2.2.2.1.natAbs+(List.length ([]:List au)+(List.length ([]:List ax)+(r5.1.length+2))))))))))))))))))))))))))) (r2.1,(r2.1.length:Int),0,a3.1,a3.2.1,a3.2.2.1,a3.2.2.2.1,a3.2.2.2.2.1,a3.2.2.2.2.2.1,a3.2.2.2.2.2.2.1,a3.2.2.2.2.2.2.2.1,a3.2.2.2.2.2.2.2.2,[],[],0,0,0,false,[],[],[],a2,a0.1,a3.2.2.1,a3.2.2.2.1,a3.2.2.2.2.1,a3.2.2.2.2.2.1,[],[],r5.1,()) (su)) fun (_,_,_,_,_,_,_,_,_,A,B,C,D,E,F,G,H,I,_)=>
     bif ((G.length:Int))==0 then
      some (([],[],0,0,0,false,[],[],[]),9,())
     else
      (fS (A,B,C,D,E,F,I,G,H)).bind fun r13=>
      bif r13.1 != 0 then
       some (([],[],0,0,0,false,[],[],[]),r13.1,())
      else
       some ((A,B,C,D,E,F,I,G,H),0,())
abbrev nJ:Type:=Int×(List ah)×Int×Int×Bys×Bys×Bys×Int×Int×(List bC)×(List aj)×Int×Int×(List ah)×(List (Int×(List aF)))×(List (Int×aa))×(List cQ)×Unit
abbrev nI:Type:=(((List iM)×Int×Unit) ⊕ (Int×Bys×Bys×Bys×Int×Int×(List bC)×(List aj)×Int×Int×(List ah)×(List (Int×(List aF)))×(List (Int×aa))×(List cQ)×Unit))
def iO (x1:nJ) (again:nJ→Option nI):Option nI:=
 match x1 with
 | (A,B,C,D,E,F,G,H,I,J,K,L,M,N,O,P,Q,_)=>
 bif decide (D<C) then
  (idx B D).bind fun y2=>
  bif decide (y2.2.2.1≤A) then
   (me ((E,F,G,H,I,J),K,(L,M),N,O,P,Q,()) D).bind fun r3=>
   again (A,B,C,w64 (D+1),r3.1.1.1,r3.1.1.2.1,r3.1.1.2.2.1,r3.1.1.2.2.2.1,r3.1.1.2.2.2.2.1,r3.1.1.2.2.2.2.2,r3.1.2.1,r3.1.2.2.1.1,r3.1.2.2.1.2,r3.1.2.2.2.1,r3.1.2.2.2.2.1,r3.1.2.2.2.2.2.1,r3.1.2.2.2.2.2.2.1,())
  else
   again (A,B,C,w64 (D+1),E,F,G,H,I,J,K,L,M,N,O,P,Q,())
 else
  some (.inr (A,E,F,G,H,I,J,K,L,M,N,O,P,Q,()))
abbrev pN:Type:=(List iM)×(List aF)×Int×Int×Bys×Bys×Bys×Int×Int×(List bC)×(List aj)×Int×Int×(List ah)×(List cQ)×(List (Int×(List aF)))×(List (Int×aa))×Unit
abbrev pM:Type:=(((List iM)×Int×Unit) ⊕ ((List iM)×Unit))
def mM (x1:pN) (again:pN→Option pM):Option pM:=
 match x1 with
 | (A,B,C,D,E,F,G,H,I,J,K,L,M,N,O,P,Q,_)=>
 bif decide (D<C) then
  (idx B D).bind fun y2=>
  (B5 y2).bind fun r3=>
  (qC r3.1 (Option.getD (α:=aa) (cz (k:=tI) (v:=aq) Q y2.1) (false,[]))).bind fun r4=>
  (aG r4.1).bind fun r5=>
  bif decide (r5.1≤0) then
   again (A,B,C,w64 (D+1),E,F,G,H,I,J,K,L,M,N,O,P,Q,())
  else
   (pE r4.1 9).bind fun r6=>
   bif r6.2.1 != 0 then
    some (.inl ([],r6.2.1,()))
   else
    chk (decide (((A.length)+1)*32≤140737488355328)&&decide ((A.length)+1≤maxLen)) <|
    again (A++[(y2.1,r6.1,y2.2.2.2.2.2.1)],B,C,w64 (D+1),E,F,G,H,I,J,K,L,M,N,O,P,Q,())
 else
  some (.inr (A,()))
def rW (a0:av) (a1:List aj) (a2:bw) (a3:List ah) (a4:Int):Option ((List iM)×Int×Unit):=
 Tg (vz a0 a1 a2 a3) (fun r1=>
  bif r1.2.1 != 0 then
   some ([],r1.2.1,())
  else
   (mV a4).bind fun r2=>
   bif !r2.1 then
    some ([],1,())
   else
    none) (
  (zy a0 a1 a2 a3).bind fun r3=>
  bif r3.2.1 != 0 then
   some ([],r3.2.1,())
  else
   (mV a4).bind fun r4=>
   bif !r4.1 then
    some ([],1,())
   else
    aT (
     iter (X:=nJ) (β:=nI) (a4.natAbs+(a3.length+(Int.natAbs ((a3.length:Int))+(Int.natAbs (0:Int)+(r3.1.1.1.length+(r3.1.1.2.1.length+(r3.1.1.2.2.1.length+(r3.1.1.2.2.2.1.natAbs+(r3.1.1.2.2.2.2.1.natAbs+(r3.1.1.2.2.2.2.2.length+(r3.1.2.1.length+(r3.1.2.2.1.1.natAbs+(r3.1.2.2.1.2.natAbs+(r3.1.2.2.2.1.length+(r3.1.2.2.2.2.1.length+(r3.1.2.2.2.2.2.1.length+(r3.1.2.2.2.2.2.2.1.length+2))))))))))))))))) (a4,a3,(a3.length:Int),0,r3.1.1.1,r3.1.1.2.1,r3.1.1.2.2.1,r3.1.1.2.2.2.1,r3.1.1.2.2.2.2.1,r3.1.1.2.2.2.2.2,r3.1.2.1,r3.1.2.2.1.1,r3.1.2.2.1.2,r3.1.2.2.2.1,r3.1.2.2.2.2.1,r3.1.2.2.2.2.2.1,r3.1.2.2.2.2.2.2.1,()) (iO)) fun (A,B,C,D,E,F,G,H,I,J,K,L,M,N,_)=>
    (lH ((B,C,D,E,F,G),H,(I,J),K,L,M,N,()) A).bind fun r9=>
    aT (
     iter (X:=pN) (β:=pM) (List.length ([]:List iM)+(r9.1.length+(Int.natAbs ((r9.1.length:Int))+(Int.natAbs (0:Int)+(r9.2.1.1.1.length+(r9.2.1.1.2.1.length+(r9.2.1.1.2.2.1.length+(r9.2.1.1.2.2.2.1.natAbs+(r9.2.1.1.2.2.2.2.1.natAbs+(r9.2.1.1.2.2.2.2.2.length+(r9.2.1.2.1.length+(r9.2.1.2.2.1.1.natAbs+(r9.2.1.2.2.1.2.natAbs+(r9.2.1.2.2.2.1.length+(r9.2.1.2.2.2.2.2.2.1.length+(r9.2.1.2.2.2.2.1.length+(r9.2.1.2.2.2.2.2.1.length+2))))))))))))))))) ([],r9.1,(r9.1.length:Int),0,r9.2.1.1.1,r9.2.1.1.2.1,r9.2.1.1.2.2.1,r9.2.1.1.2.2.2.1,r9.2.1.1.2.2.2.2.1,r9.2.1.1.2.2.2.2.2,r9.2.1.2.1,r9.2.1.2.2.1.1,r9.2.1.2.2.1.2,r9.2.1.2.2.2.1,r9.2.1.2.2.2.2.2.2.1,r9.2.1.2.2.2.2.1,r9.2.1.2.2.2.2.2.1,()) (mM)) fun v16=>
    some (v16.1,0,()))
end Go.Md
end
