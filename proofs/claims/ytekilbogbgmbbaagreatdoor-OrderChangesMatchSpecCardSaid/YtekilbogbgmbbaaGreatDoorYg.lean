/-
  The plain models of the functions that the law reaches, fourth part. No condition.
-/
import Derived.Test.YtekilbogbgmbbaaGreatDoorYo
import Derived.Test.YtekilbogbgmbbaaGreatDoorYd
noncomputable section
namespace Go.Md
open Go.Dn
abbrev slices_Sort_int (l:List Int):Option (List Int×Unit):=acI l
noncomputable section
abbrev aT:Ty:=(.st (.pair gC (.pair tI (.pair tI (.slice bL)))))
abbrev an:Type:=dD×Int×Int×(List ay)
abbrev fh:Ty:=(.st (.pair aH (.pair (.slice aq) (.pair (.slice aT) (.slice au)))))
abbrev ew:Type:=aj×(List aa)×(List an)×(List ah)
abbrev fJ:Type:=(List (Option Nat))×Int×Int×Bys×Bys×Bys×Int×Int×(List ai)×(List aa)×Int×(List Int)×(List ah)×(List ay)×(List (Int×(Option Nat)))×Unit
abbrev iB:Type:=(((List (Option Nat))×(aj×(List aa)×(List (Int×(Option Nat)))×(List ah)×(List ay)×Int×Unit)×Unit) ⊕ ((List (Option Nat))×Bys×Bys×Bys×Int×Int×(List ai)×(List aa)×Int×(List ah)×(List ay)×(List (Int×(Option Nat)))×Unit))
def iA (x1:fJ) (again:fJ->Option iB):Option iB:=
 match x1 with
 | (A,B,C,D,E,F,G,H,I,J,K,L,M,N,O,_)=>
 bif decide (C<B) then
  chk (decide (0<=C)&&decide (C<(L.length:Int))) <|
  (L[C.toNat]?).bind fun y2=>
  chk (decide (((A.length)+1)*8<=140737488355328)&&decide ((A.length)+1<=maxLen)) <|
  again (A++[(Option.getD (α:=Option Nat) (eH (k:=tI) (v:= .hnd) O y2) none)],B,w64 (C+1),D,E,F,G,H,I,J,K,L,M,N,O,())
 else
  some (.inr (A,D,E,F,G,H,I,J,K,M,N,O,()))
def jJ (a0:aj×(List aa)×(List (Int×(Option Nat)))×(List ah)×(List ay)×Int×Unit):Option ((List (Option Nat))×(aj×(List aa)×(List (Int×(Option Nat)))×(List ah)×(List ay)×Int×Unit)×Unit):=
 chk (mK a0.2.2.1) <|
 aC (
  iter (X:=fJ) (β:=iB) (List.length ([]:List (Option Nat))+(Int.natAbs ((List.length (sK a0.2.2.1):Int))+(Int.natAbs (0:Int)+(a0.1.1.length+(a0.1.2.1.length+(a0.1.2.2.1.length+(a0.1.2.2.2.1.natAbs+(a0.1.2.2.2.2.1.natAbs+(a0.1.2.2.2.2.2.length+(a0.2.1.length+(a0.2.2.2.2.2.1.natAbs+(List.length ((sK a0.2.2.1):List Int)+(a0.2.2.2.1.length+(a0.2.2.2.2.1.length+(a0.2.2.1.length+2))))))))))))))) ([],(List.length (sK a0.2.2.1):Int),0,a0.1.1,a0.1.2.1,a0.1.2.2.1,a0.1.2.2.2.1,a0.1.2.2.2.2.1,a0.1.2.2.2.2.2,a0.2.1,a0.2.2.2.2.2.1,sK a0.2.2.1,a0.2.2.2.1,a0.2.2.2.2.1,a0.2.2.1,()) (iA)) fun (A,B,C,D,E,F,G,H,I,J,K,L,_)=>
 some (A,((B,C,D,E,F,G),H,L,J,K,I,()),())
abbrev tW:Type:=Int×Int×Int×Unit
abbrev yN:Type:=((Int×Unit) ⊕ (Int×Unit))
def yM (x1:tW) (again:tW->Option yN):Option yN:=
 bif decide (x1.2.2.1<x1.2.1) then
  again (w64 (x1.1*10),x1.2.1,w64 (x1.2.2.1+1),())
 else
  some (.inr (x1.1,()))
def nw (a0:ah):Option (Int×Unit):=
 aC (
  iter (X:=tW) (β:=yN) (a0.1.natAbs+(Int.natAbs (w64 (3 - a0.2))+(Int.natAbs (0:Int)+2))) (a0.1,w64 (3 - a0.2),0,()) (yM)) fun v2=>
 some (v2.1,())
def jN (a0:ah) (a1:ah):Option (ah×Unit):=
 (nw a0).bind fun r1=>
 (nw a1).bind fun r2=>
 (fM (w64 (r1.1+r2.1),3)).bind fun r3=>
 some (r3.1,())
def BY (a0:ah) (a1:ah):Option (ah×Unit):=
 (jN a0 (w64 (0 - a1.1),a1.2)).bind fun r1=>
 some (r1.1,())
def vE (a0:dD):Option (ah×Unit):=
 (BY a0.2.2.2.2.2.2.1 a0.2.2.2.2.2.2.2.2.1).bind fun r1=>
 some (r1.1,())
def nx (a0:dD):Option (dD×Unit):=
 (vE a0).bind fun r1=>
 (BY a0.2.2.2.1 r1.1).bind fun r2=>
 bif decide (r2.1.1<0) then
  some ((a0.1,a0.2.1,a0.2.2.1,a0.2.2.2.1,a0.2.2.2.2.1,a0.2.2.2.2.2.1,a0.2.2.2.2.2.2.1,a0.2.2.2.2.2.2.2.1,a0.2.2.2.2.2.2.2.2.1,0,0),())
 else
  some ((a0.1,a0.2.1,a0.2.2.1,a0.2.2.2.1,a0.2.2.2.2.1,a0.2.2.2.2.2.1,a0.2.2.2.2.2.2.1,a0.2.2.2.2.2.2.2.1,a0.2.2.2.2.2.2.2.2.1,r2.1),())
abbrev jD:Type:=Int×Int×Bys×Bys×Bys×Int×Int×(List ai)×Bys×Bys×Bys×Int×Int×(List ai)×(List (Option Nat))×(List aP)×Unit
abbrev qH:Type:=((aj×Int×Unit) ⊕ (Bys×Bys×Bys×Int×Int×(List ai)×Bys×Bys×Bys×Int×Int×(List ai)×(List aP)×Unit))
def qG (x1:jD) (again:jD->Option qH):Option qH:=
 match x1 with
 | (A,B,C,D,E,F,G,H,I,J,K,L,M,N,O,P,_)=>
 bif decide (B<A) then
  chk (decide (0<=B)&&decide (B<(O.length:Int))) <|
  (O[B.toNat]?).bind fun y2=>
  (y2).bind fun h3=>
  (P[h3]?).bind fun y4=>
  bif decide (y4.2.2.2.1>0) then
   (ja y2 P).bind fun r5=>
   chk (decide (((N.length)+1)*80<=140737488355328)&&decide ((N.length)+1<=maxLen)) <|
   again (A,w64 (B+1),C,D,E,F,G,H,I,J,K,L,M,N++[(r5.1.1,r5.1.2.1,r5.1.2.2.2.1,r5.1.2.2.1,r5.1.2.2.2.2.1,r5.1.2.2.2.2.2.1)],O,P,())
  else
   again (A,w64 (B+1),C,D,E,F,G,H,I,J,K,L,M,N,O,P,())
 else
  some (.inr (C,D,E,F,G,H,I,J,K,L,M,N,P,()))
def wB (a0:aj) (a1:List aa):Option (aj×Int×Unit):=
 Xu (AD a0 a1 3652059 []) (fun r1=>
  bif r1.2.1 != 0 then
   some (([],[],[],0,0,[]),r1.2.1,())
  else
   none) (
  (Gc a0 a1 3652059 []).bind fun r2=>
  bif r2.2.1 != 0 then
   some (([],[],[],0,0,[]),r2.2.1,())
  else
   (jJ (r2.1.1,r2.1.2.1,r2.1.2.2.1,r2.1.2.2.2.1,r2.1.2.2.2.2.1,r2.1.2.2.2.2.2.1,())).bind fun r3=>
   aC (
    iter (X:=jD) (β:=qH) (Int.natAbs ((r3.1.length:Int))+(Int.natAbs (0:Int)+(List.length ([]:Bys)+(List.length ([]:Bys)+(List.length ([]:Bys)+(Int.natAbs (0:Int)+(Int.natAbs (0:Int)+(List.length ([]:List ai)+(a0.1.length+(a0.2.1.length+(a0.2.2.1.length+(a0.2.2.2.1.natAbs+(a0.2.2.2.2.1.natAbs+(List.length ([]:List ai)+(r3.1.length+(r2.2.2.1.length+2)))))))))))))))) ((r3.1.length:Int),0,[],[],[],0,0,[],a0.1,a0.2.1,a0.2.2.1,a0.2.2.2.1,a0.2.2.2.2.1,[],r3.1,r2.2.2.1,()) (qG)) fun (_,_,_,_,_,_,A,B,C,D,E,F,_,_)=>
   bif ((F.length:Int))==0 then
    some (([],[],[],0,0,[]),9,())
   else
    some ((A,B,C,D,E,F),0,()))
abbrev fO:Type:=(List ai)×(List ai)×Int×Int×Unit
abbrev iI:Type:=((Bool×Unit) ⊕ Unit)
def iH (x1:fO) (again:fO->Option iI):Option iI:=
 match x1 with
 | (A,B,C,D,_)=>
 bif decide (D<C) then
  (idx A D).bind fun y2=>
  (idx B D).bind fun y3=>
  bif !((y2.1==y3.1)&&((y2.2.1==y3.2.1)&&(((y2.2.2.1.1==y3.2.2.1.1)&&((y2.2.2.1.2==y3.2.2.1.2)&&true))&&((y2.2.2.2.1==y3.2.2.2.1)&&(((y2.2.2.2.2.1.1==y3.2.2.2.2.1.1)&&((y2.2.2.2.2.1.2==y3.2.2.2.2.1.2)&&true))&&((y2.2.2.2.2.2==y3.2.2.2.2.2)&&true)))))) then
   some (.inl (false,()))
  else
   again (A,B,C,w64 (D+1),())
 else
  some (.inr ())
def jQ (a0:List ai) (a1:List ai):Option (Bool×Unit):=
 bif ((a0.length:Int)) != ((a1.length:Int)) then
  some (false,())
 else
  aC (
   iter (X:=fO) (β:=iI) (a0.length+(a1.length+(Int.natAbs ((a0.length:Int))+(Int.natAbs (0:Int)+2)))) (a0,a1,(a0.length:Int),0,()) (iH)) fun _=>
  some (true,())
def wP (a0:aj) (a1:aj):Option (Bool×Unit):=
 (
  bif a0.1==a1.1 then
   bif a0.2.1==a1.2.1 then
    bif a0.2.2.1==a1.2.2.1 then
     bif a0.2.2.2.1==a1.2.2.2.1 then
      bif a0.2.2.2.2.1==a1.2.2.2.2.1 then
       Option.bind (jQ a0.2.2.2.2.2 a1.2.2.2.2.2) fun r1=>
       some (r1.1,())
      else
       some (false,())
     else
      some (false,())
    else
     some (false,())
   else
    some (false,())
  else
   some (false,())).bind fun v2=>
 some (v2.1,())
def wR (a0:aj) (a1:Int):Option (Int×Unit):=
 (idx a0.2.2.2.2.2 a1).bind fun y1=>
 (iN y1.1 1 99999).bind fun r2=>
 bif !r2.1 then
  some (1,())
 else
  (
   bif decide (a1>0) then
    Option.bind (idx a0.2.2.2.2.2 (w64 (a1 - 1))) fun y3=>
    some (decide (y1.1<=y3.1),())
   else
    some (false,())).bind fun v4=>
  bif v4.1 then
   some (8,())
  else
   (kT y1.2.1).bind fun r5=>
   bif !r5.1 then
    some (5,())
   else
    (lC y1.2.2.1 false).bind fun r6=>
    bif r6.1 != 0 then
     some (1,())
    else
     (kT y1.2.2.2.1).bind fun r7=>
     bif !r7.1 then
      some (5,())
     else
      (pW y1.2.2.2.2.1).bind fun r8=>
      bif r8.1 != 0 then
       some (1,())
      else
       (iN y1.2.2.2.2.2 a0.2.2.2.1 3652059).bind fun r9=>
       bif !r9.1 then
        some (1,())
       else
        some (0,())
abbrev nH:Type:=Int×Int×Bys×Bys×Bys×Int×Int×(List ai)×Unit
abbrev tv:Type:=((Int×Unit) ⊕ Unit)
def nG (x1:nH) (again:nH->Option tv):Option tv:=
 match x1 with
 | (A,B,C,D,E,F,G,H,_)=>
 bif decide (B<A) then
  (wR (C,D,E,F,G,H) B).bind fun r2=>
  bif r2.1 != 0 then
   some (.inl (r2.1,()))
  else
   again (A,w64 (B+1),C,D,E,F,G,H,())
 else
  some (.inr ())
def mj (a0:aj):Option (Int×Unit):=
 (kT a0.1).bind fun r1=>
 bif !r1.1 then
  some (5,())
 else
  (kT a0.2.1).bind fun r2=>
  bif !r2.1 then
   some (5,())
  else
   (kT a0.2.2.1).bind fun r3=>
   bif !r3.1 then
    some (5,())
   else
    bif a0.2.1==a0.2.2.1 then
     some (12,())
    else
     (x7 a0.2.2.2.1).bind fun r4=>
     bif !r4.1 then
      some (1,())
     else
      (iN a0.2.2.2.2.1 0 1000).bind fun r5=>
      bif !r5.1 then
       some (1,())
      else
       bif ((a0.2.2.2.2.2.length:Int))==0 then
        some (9,())
       else
        bif decide (((a0.2.2.2.2.2.length:Int))>500) then
         some (2,())
        else
         aC (
          iter (X:=nH) (β:=tv) (Int.natAbs ((a0.2.2.2.2.2.length:Int))+(Int.natAbs (0:Int)+(a0.1.length+(a0.2.1.length+(a0.2.2.1.length+(a0.2.2.2.1.natAbs+(a0.2.2.2.2.1.natAbs+(a0.2.2.2.2.2.length+2)))))))) ((a0.2.2.2.2.2.length:Int),0,a0.1,a0.2.1,a0.2.2.1,a0.2.2.2.1,a0.2.2.2.2.1,a0.2.2.2.2.2,()) (nG)) fun _=>
         some (0,())
end
end Go.Md
namespace Go.Md
open Go.Dn
abbrev gf (l:List an) (i:Int) (v:List an):=Sq 184 l i v
def Ja (a0:aj) (a1:List aa):Option (Int×Unit):=
 (mj a0).bind fun r1=>
 bif r1.1 != 0 then
  some (r1.1,())
 else
  (pV a1).bind fun r2=>
  some (r2.1,())
abbrev kD:Type:=Int×(List an)×Int×Int×Unit
abbrev nL:Type:=((Int×Unit) ⊕ Unit)
def nK (x1:kD) (again:kD->Option nL):Option nL:=
 match x1 with
 | (A,B,C,D,_)=>
 bif decide (D<C) then
  (idx B D).bind fun y2=>
  bif y2.1.1==A then
   some (.inl (D,()))
  else
   again (A,B,C,w64 (D+1),())
 else
  some (.inr ())
def kZ (a0:ew) (a1:Int):Option (Int×Unit):=
 aC (
  iter (X:=kD) (β:=nL) (a1.natAbs+(a0.2.2.1.length+(Int.natAbs ((a0.2.2.1.length:Int))+(Int.natAbs (0:Int)+2)))) (a1,a0.2.2.1,(a0.2.2.1.length:Int),0,()) (nK)) fun _=>
 some ((-1),())
def wQ (a0:ew) (a1:dD):Option (Int×Unit):=
 (nw a1.2.2.2.1).bind fun r1=>
 let n2:Int:=w64 (r1.1+(w64 (Int.tdiv (w64 (r1.1*a0.1.2.2.2.2.1)) 1000)))
 some (n2,())
def qL (a0:ew) (a1:Int):Option (Int×Unit):=
 (idx a0.2.1 a1).bind fun y1=>
 (kZ a0 y1.2.2.2.2.1).bind fun r2=>
 bif !((decide (r2.1<0))==(y1.2.2.2.1==1)) then
  bif decide (r2.1<0) then
   some (9,())
  else
   some (7,())
 else
  (
   bif decide (r2.1<0) then
    some (decide (((a0.2.2.1.length:Int))>=500),())
   else
    some (false,())).bind fun v3=>
  bif v3.1 then
   some (16,())
  else
   (
    Option.bind (CT y1.2.2.2.1) fun r4=>
    bif r4.1.2.2.1 then
     some (decide (y1.2.2.2.2.2.2.2.2.2.1<a0.1.2.2.2.1),())
    else
     some (false,())).bind fun v5=>
   bif v5.1 then
    some (1,())
   else
    bif decide (r2.1<0) then
     some (0,())
    else
     (idx a0.2.2.1 r2.1).bind fun y6=>
     aC (γ:=(ew×Int×Bool×Int×Int×Int×Int×Int×Bys×Int×Int×Bys×Int×Int×Int×Int×Int×Bys×Bys×Int×Int×Int×Int×Int×Int×Int×Int×Int×Int×Int×Int×Int×Int×Int×(List ay)×Int×Bys×Bys×Int×Int×Int×Int×Int×Int×Int×Int×Int×Int×Int×Int×Int×Unit)) (
      bif y1.2.2.2.1==2 then
       some (.inr (a0,y1.2.2.2.1,y1.2.2.2.1==2,y1.1,y1.2.1,y1.2.2.1,y1.2.2.2.1,y1.2.2.2.2.1,y1.2.2.2.2.2.1,y1.2.2.2.2.2.2.1.1,y1.2.2.2.2.2.2.1.2,y1.2.2.2.2.2.2.2.1,y1.2.2.2.2.2.2.2.2.1.1,y1.2.2.2.2.2.2.2.2.1.2,y1.2.2.2.2.2.2.2.2.2.1,y1.2.2.2.2.2.2.2.2.2.2,y6.1.1,y6.1.2.1,y6.1.2.2.1,y6.1.2.2.2.1.1,y6.1.2.2.2.1.2,y6.1.2.2.2.2.1.1,y6.1.2.2.2.2.1.2,y6.1.2.2.2.2.2.1,y6.1.2.2.2.2.2.2.1.1,y6.1.2.2.2.2.2.2.1.2,y6.1.2.2.2.2.2.2.2.1.1,y6.1.2.2.2.2.2.2.2.1.2,y6.1.2.2.2.2.2.2.2.2.1.1,y6.1.2.2.2.2.2.2.2.2.1.2,y6.1.2.2.2.2.2.2.2.2.2.1,y6.1.2.2.2.2.2.2.2.2.2.2,y6.2.1,y6.2.2.1,y6.2.2.2,y6.1.1,y6.1.2.1,y6.1.2.2.1,y6.1.2.2.2.1.1,y6.1.2.2.2.1.2,y6.1.2.2.2.2.1.1,y6.1.2.2.2.2.1.2,y6.1.2.2.2.2.2.1,y6.1.2.2.2.2.2.2.1.1,y6.1.2.2.2.2.2.2.1.2,y6.1.2.2.2.2.2.2.2.1.1,y6.1.2.2.2.2.2.2.2.1.2,y6.1.2.2.2.2.2.2.2.2.1.1,y6.1.2.2.2.2.2.2.2.2.1.2,y6.1.2.2.2.2.2.2.2.2.2.1,y6.1.2.2.2.2.2.2.2.2.2.2,()))
      else
       bif y1.2.2.2.1==3 then
        some (.inr (a0,y1.2.2.2.1,y1.2.2.2.1==3,y1.1,y1.2.1,y1.2.2.1,y1.2.2.2.1,y1.2.2.2.2.1,y1.2.2.2.2.2.1,y1.2.2.2.2.2.2.1.1,y1.2.2.2.2.2.2.1.2,y1.2.2.2.2.2.2.2.1,y1.2.2.2.2.2.2.2.2.1.1,y1.2.2.2.2.2.2.2.2.1.2,y1.2.2.2.2.2.2.2.2.2.1,y1.2.2.2.2.2.2.2.2.2.2,y6.1.1,y6.1.2.1,y6.1.2.2.1,y6.1.2.2.2.1.1,y6.1.2.2.2.1.2,y6.1.2.2.2.2.1.1,y6.1.2.2.2.2.1.2,y6.1.2.2.2.2.2.1,y6.1.2.2.2.2.2.2.1.1,y6.1.2.2.2.2.2.2.1.2,y6.1.2.2.2.2.2.2.2.1.1,y6.1.2.2.2.2.2.2.2.1.2,y6.1.2.2.2.2.2.2.2.2.1.1,y6.1.2.2.2.2.2.2.2.2.1.2,y6.1.2.2.2.2.2.2.2.2.2.1,y6.1.2.2.2.2.2.2.2.2.2.2,y6.2.1,y6.2.2.1,y6.2.2.2,y6.1.1,y6.1.2.1,y6.1.2.2.1,y6.1.2.2.2.1.1,y6.1.2.2.2.1.2,y6.1.2.2.2.2.1.1,y6.1.2.2.2.2.1.2,y6.1.2.2.2.2.2.1,y6.1.2.2.2.2.2.2.1.1,y6.1.2.2.2.2.2.2.1.2,y6.1.2.2.2.2.2.2.2.1.1,y6.1.2.2.2.2.2.2.2.1.2,y6.1.2.2.2.2.2.2.2.2.1.1,y6.1.2.2.2.2.2.2.2.2.1.2,y6.1.2.2.2.2.2.2.2.2.2.1,y6.1.2.2.2.2.2.2.2.2.2.2,()))
       else
        some (.inr (a0,y1.2.2.2.1,y1.2.2.2.1==4,y1.1,y1.2.1,y1.2.2.1,y1.2.2.2.1,y1.2.2.2.2.1,y1.2.2.2.2.2.1,y1.2.2.2.2.2.2.1.1,y1.2.2.2.2.2.2.1.2,y1.2.2.2.2.2.2.2.1,y1.2.2.2.2.2.2.2.2.1.1,y1.2.2.2.2.2.2.2.2.1.2,y1.2.2.2.2.2.2.2.2.2.1,y1.2.2.2.2.2.2.2.2.2.2,y6.1.1,y6.1.2.1,y6.1.2.2.1,y6.1.2.2.2.1.1,y6.1.2.2.2.1.2,y6.1.2.2.2.2.1.1,y6.1.2.2.2.2.1.2,y6.1.2.2.2.2.2.1,y6.1.2.2.2.2.2.2.1.1,y6.1.2.2.2.2.2.2.1.2,y6.1.2.2.2.2.2.2.2.1.1,y6.1.2.2.2.2.2.2.2.1.2,y6.1.2.2.2.2.2.2.2.2.1.1,y6.1.2.2.2.2.2.2.2.2.1.2,y6.1.2.2.2.2.2.2.2.2.2.1,y6.1.2.2.2.2.2.2.2.2.2.2,y6.2.1,y6.2.2.1,y6.2.2.2,y6.1.1,y6.1.2.1,y6.1.2.2.1,y6.1.2.2.2.1.1,y6.1.2.2.2.1.2,y6.1.2.2.2.2.1.1,y6.1.2.2.2.2.1.2,y6.1.2.2.2.2.2.1,y6.1.2.2.2.2.2.2.1.1,y6.1.2.2.2.2.2.2.1.2,y6.1.2.2.2.2.2.2.2.1.1,y6.1.2.2.2.2.2.2.2.1.2,y6.1.2.2.2.2.2.2.2.2.1.1,y6.1.2.2.2.2.2.2.2.2.1.2,y6.1.2.2.2.2.2.2.2.2.2.1,y6.1.2.2.2.2.2.2.2.2.2.2,()))) fun (A,B,C,D,E,F,G,H,I,J,K,L,M,N,O,P,Q,R,S,T,U,V,W,X,Y,Z,A0,B0,C0,D0,E0,F0,G0,H0,I0,J0,K0,L0,M0,N0,O0,P0,Q0,R0,S0,T0,U0,V0,W0,X0,Y0,_)=>
     bif C then
      bif decide (G0>=0) then
       some (11,())
      else
       some (0,())
     else
      aC (γ:=(ew×Int×Bool×Int×Int×Int×Int×Int×Bys×Int×Int×Bys×Int×Int×Int×Int×Int×Bys×Bys×Int×Int×Int×Int×Int×Int×Int×Int×Int×Int×Int×Int×Int×Int×Int×(List ay)×Int×Bys×Bys×Int×Int×Int×Int×Int×Int×Int×Int×Int×Int×Int×Int×Int×Unit)) (
       bif B==5 then
        some (.inr (A,B,B==5,D,E,F,G,H,I,J,K,L,M,N,O,P,Q,R,S,T,U,V,W,X,Y,Z,A0,B0,C0,D0,E0,F0,G0,H0,I0,J0,K0,L0,M0,N0,O0,P0,Q0,R0,S0,T0,U0,V0,W0,X0,Y0,()))
       else
        some (.inr (A,B,B==6,D,E,F,G,H,I,J,K,L,M,N,O,P,Q,R,S,T,U,V,W,X,Y,Z,A0,B0,C0,D0,E0,F0,G0,H0,I0,J0,K0,L0,M0,N0,O0,P0,Q0,R0,S0,T0,U0,V0,W0,X0,Y0,()))) fun (Z0,A1,B1,_,_,_,C1,_,_,D1,E1,_,_,_,_,F1,_,_,_,_,_,_,_,_,_,_,_,_,_,_,_,_,G1,H1,_,I1,J1,K1,L1,M1,N1,O1,P1,Q1,R1,S1,T1,U1,V1,W1,X1,_)=>
      bif B1 then
       bif decide (G1<0) then
        some (5,())
       else
        (idx Z0.2.1 G1).bind fun y9=>
        bif y9.2.2.1 != F1 then
         some (5,())
        else
         (
          bif C1==5 then
           Option.bind (idx Z0.2.1 G1) fun y10=>
           bif y10.2.2.2.1==2 then
            Option.bind (idx Z0.2.1 G1) fun y11=>
            Option.bind (vE (I1,J1,K1,(L1,M1),(N1,O1),P1,(Q1,R1),(S1,T1),(U1,V1),W1,X1)) fun r12=>
            Option.bind (mV y11.2.2.2.2.2.2.1 r12.1) fun r13=>
            some (decide (r13.1<0),())
           else
            some (false,())
          else
           some (false,())).bind fun v14=>
         bif v14.1 then
          some (12,())
         else
          some (0,())
      else
       bif A1==7 then
        bif decide (G1>=0) then
         some (11,())
        else
         bif W1==0 then
          some (11,())
         else
          (mV (D1,E1) (W1,X1)).bind fun r15=>
          bif decide (r15.1>0) then
           some (12,())
          else
           some (0,())
       else
        bif A1==8 then
         bif decide (G1>=0) then
          some (11,())
         else
          bif decide (H1<0) then
           some (5,())
          else
           (idx Z0.2.1 H1).bind fun y16=>
           bif y16.2.2.1 != F1 then
            some (5,())
           else
            some (0,())
        else
         bif A1==9 then
          (vE (I1,J1,K1,(L1,M1),(N1,O1),P1,(Q1,R1),(S1,T1),(U1,V1),W1,X1)).bind fun r17=>
          (nw r17.1).bind fun r18=>
          (nw (D1,E1)).bind fun r19=>
          (wQ Z0 (I1,J1,K1,(L1,M1),(N1,O1),P1,(Q1,R1),(S1,T1),(U1,V1),W1,X1)).bind fun r20=>
          bif decide ((w64 (r18.1+r19.1))>r20.1) then
           some (12,())
          else
           (nw (Q1,R1)).bind fun r21=>
           (nw (D1,E1)).bind fun r22=>
           bif decide ((w64 (r21.1+r22.1))>1000000000000000) then
            some (16,())
           else
            some (0,())
         else
          bif A1==10 then
           (jN (S1,T1) (D1,E1)).bind fun r23=>
           (mV r23.1 (Q1,R1)).bind fun r24=>
           bif decide (r24.1>0) then
            some (12,())
           else
            some (0,())
          else
           bif A1==11 then
            (jN (U1,V1) (D1,E1)).bind fun r25=>
            (mV r25.1 (S1,T1)).bind fun r26=>
            bif decide (r26.1>0) then
             some (12,())
            else
             some (0,())
           else
            some (0,())
def iX {β:Type} (a0:(List aa)) (a1:(List an)) (a2:Nat) (k:(List an)->Option β):Option β:=
 (a1[a2]?).bind fun y1=>
 (idx a0 y1.2.1).bind fun y2=>
 bif y2.2.2.2.1==1 then
  bif y2.2.2.2.1==1 then
   (fM y2.2.2.2.2.2.2.1).bind fun r3=>
   (a1[a2]?).bind fun y4=>
   ((List.set a1 a2 ((y4.1.1,y4.1.2.1,y4.1.2.2.1,r3.1,y4.1.2.2.2.2),y4.2))[a2]?).bind fun y5=>
   k (List.set (List.set a1 a2 ((y4.1.1,y4.1.2.1,y4.1.2.2.1,r3.1,y4.1.2.2.2.2),y4.2)) a2 (y5.1,(-1),y5.2.2))
  else
   bif y2.2.2.2.1==3 then
    (a1[a2]?).bind fun y6=>
    ((List.set a1 a2 ((y6.1.1,y6.1.2.1,y6.1.2.2.1,y6.1.2.2.2.1,y6.1.2.2.2.2.1,y2.2.2.2.2.2.2.2.2.2.1,y6.1.2.2.2.2.2.2),y6.2))[a2]?).bind fun y7=>
    k (List.set (List.set a1 a2 ((y6.1.1,y6.1.2.1,y6.1.2.2.1,y6.1.2.2.2.1,y6.1.2.2.2.2.1,y2.2.2.2.2.2.2.2.2.2.1,y6.1.2.2.2.2.2.2),y6.2)) a2 (y7.1,(-1),y7.2.2))
   else
    bif y2.2.2.2.1==4 then
     (fM y2.2.2.2.2.2.2.2.2.1).bind fun r8=>
     (a1[a2]?).bind fun y9=>
     ((List.set a1 a2 ((y9.1.1,y9.1.2.1,y9.1.2.2.1,y9.1.2.2.2.1,r8.1,y9.1.2.2.2.2.2),y9.2))[a2]?).bind fun y10=>
     k (List.set (List.set a1 a2 ((y9.1.1,y9.1.2.1,y9.1.2.2.1,y9.1.2.2.2.1,r8.1,y9.1.2.2.2.2.2),y9.2)) a2 (y10.1,(-1),y10.2.2))
    else
     (a1[a2]?).bind fun y11=>
     k (List.set a1 a2 (y11.1,(-1),y11.2.2))
 else
  bif y2.2.2.2.1==2 then
   (fM y2.2.2.2.2.2.2.1).bind fun r12=>
   (a1[a2]?).bind fun y13=>
   ((List.set a1 a2 ((y13.1.1,y13.1.2.1,y13.1.2.2.1,r12.1,y13.1.2.2.2.2),y13.2))[a2]?).bind fun y14=>
   k (List.set (List.set a1 a2 ((y13.1.1,y13.1.2.1,y13.1.2.2.1,r12.1,y13.1.2.2.2.2),y13.2)) a2 (y14.1,(-1),y14.2.2))
  else
   bif y2.2.2.2.1==3 then
    (a1[a2]?).bind fun y15=>
    ((List.set a1 a2 ((y15.1.1,y15.1.2.1,y15.1.2.2.1,y15.1.2.2.2.1,y15.1.2.2.2.2.1,y2.2.2.2.2.2.2.2.2.2.1,y15.1.2.2.2.2.2.2),y15.2))[a2]?).bind fun y16=>
    k (List.set (List.set a1 a2 ((y15.1.1,y15.1.2.1,y15.1.2.2.1,y15.1.2.2.2.1,y15.1.2.2.2.2.1,y2.2.2.2.2.2.2.2.2.2.1,y15.1.2.2.2.2.2.2),y15.2)) a2 (y16.1,(-1),y16.2.2))
   else
    bif y2.2.2.2.1==4 then
     (fM y2.2.2.2.2.2.2.2.2.1).bind fun r17=>
     (a1[a2]?).bind fun y18=>
     ((List.set a1 a2 ((y18.1.1,y18.1.2.1,y18.1.2.2.1,y18.1.2.2.2.1,r17.1,y18.1.2.2.2.2.2),y18.2))[a2]?).bind fun y19=>
     k (List.set (List.set a1 a2 ((y18.1.1,y18.1.2.1,y18.1.2.2.1,y18.1.2.2.2.1,r17.1,y18.1.2.2.2.2.2),y18.2)) a2 (y19.1,(-1),y19.2.2))
    else
     (a1[a2]?).bind fun y20=>
     k (List.set a1 a2 (y20.1,(-1),y20.2.2))
def ga (a0:(List aa)) (a1:(List an)) (a2:Nat):Option (List an):=iX a0 a1 a2 some
theorem ZK {α β:Type} (b:Bool) (x y:Option α) (k:α->Option β):(bif b then x else y).bind k=bif b then x.bind k else y.bind k:=by cases b<;>rfl
theorem DV {β:Type} (l:List aa) (ql:List an) (i:Nat) (k:List an->Option β):iX l ql i k=(ga l ql i).bind k:=by
 unfold ga iX
 simp only[Option.bind_assoc,ZK,afO]
def gz (a0:List ay):Option ((List ay)×Unit):=
 bif List.isEmpty a0 then
  both (
   some ([],())) (
   chk (decide ((0+(a0.length))*152<=140737488355328)&&decide (0+(a0.length)<=maxLen)) <|
   some (a0,()))
 else
  chk (decide ((0+(a0.length))*152<=140737488355328)&&decide (0+(a0.length)<=maxLen)) <|
  some (a0,())
abbrev kC:Type:=Int×Int×Int×Int×Int×Int×Int×Bys×Int×Int×Bys×Int×Int×Int×Int×Bys×Bys×Bys×Int×Int×(List ai)×(List aa)×(List an)×(List ah)×Unit
abbrev nJ:Type:=((((aj×(List aa)×(List an)×(List ah)×Unit)×Unit) ⊕ (Int×Int×Int×Int×Int×Int×Int×Bys×Int×Int×Bys×Int×Int×Int×Int×Bys×Bys×Bys×Int×Int×(List ai)×(List aa)×(List an)×(List ah)×Unit)) ⊕ (Int×Int×Int×Int×Int×Int×Int×Bys×Int×Int×Bys×Int×Int×Int×Int×Bys×Bys×Bys×Int×Int×(List ai)×(List aa)×(List an)×(List ah)×Unit))
def nI (x1:kC) (again:kC->Option nJ):Option nJ:=
 match x1 with
 | (A,B,C,D,E,F,G,H,I,J,K,L,M,N,O,P,Q,R,S,T,U,V,W,X,_)=>
 (
  bif decide (B<((W.length:Int))) then
   chk (decide (0<=B)&&decide (B<(W.length:Int))) <|
   Option.bind (W[B.toNat]?) fun y2=>
   some (decide (y2.1.1<G),())
  else
   some (false,())).bind fun v3=>
 bif v3.1 then
  again (A,w64 (B+1),C,D,E,F,G,H,I,J,K,L,M,N,O,P,Q,R,S,T,U,V,W,X,())
 else
  some (.inr (A,B,C,D,E,F,G,H,I,J,K,L,M,N,O,P,Q,R,S,T,U,V,W,X,()))
def jc (a0:aj×(List aa)×(List an)×(List ah)×Unit) (a1:Int):Option ((aj×(List aa)×(List an)×(List ah)×Unit)×Unit):=
 (idx a0.2.1 a1).bind fun y1=>
 (kZ (a0.1,a0.2.1,a0.2.2.1,a0.2.2.2.1) y1.2.2.2.2.1).bind fun r2=>
 aC (γ:=(Int×Int×Int×Int×Int×Int×Int×Bys×Int×Int×Bys×Int×Int×Int×Int×Bys×Bys×Bys×Int×Int×(List ai)×(List aa)×(List an)×(List ah)×Unit)) (
  bif decide (r2.1<0) then
   aC (
    iter (X:=kC) (β:=nJ) (a1.natAbs+(Int.natAbs (0:Int)+(y1.1.natAbs+(y1.2.1.natAbs+(y1.2.2.1.natAbs+(y1.2.2.2.1.natAbs+(y1.2.2.2.2.1.natAbs+(y1.2.2.2.2.2.1.length+(y1.2.2.2.2.2.2.1.1.natAbs+(y1.2.2.2.2.2.2.1.2.natAbs+(y1.2.2.2.2.2.2.2.1.length+(y1.2.2.2.2.2.2.2.2.1.1.natAbs+(y1.2.2.2.2.2.2.2.2.1.2.natAbs+(y1.2.2.2.2.2.2.2.2.2.1.natAbs+(y1.2.2.2.2.2.2.2.2.2.2.natAbs+(a0.1.1.length+(a0.1.2.1.length+(a0.1.2.2.1.length+(a0.1.2.2.2.1.natAbs+(a0.1.2.2.2.2.1.natAbs+(a0.1.2.2.2.2.2.length+(a0.2.1.length+(a0.2.2.1.length+(a0.2.2.2.1.length+2)))))))))))))))))))))))) (a1,0,y1.1,y1.2.1,y1.2.2.1,y1.2.2.2.1,y1.2.2.2.2.1,y1.2.2.2.2.2.1,y1.2.2.2.2.2.2.1.1,y1.2.2.2.2.2.2.1.2,y1.2.2.2.2.2.2.2.1,y1.2.2.2.2.2.2.2.2.1.1,y1.2.2.2.2.2.2.2.2.1.2,y1.2.2.2.2.2.2.2.2.2.1,y1.2.2.2.2.2.2.2.2.2.2,a0.1.1,a0.1.2.1,a0.1.2.2.1,a0.1.2.2.2.1,a0.1.2.2.2.2.1,a0.1.2.2.2.2.2,a0.2.1,a0.2.2.1,a0.2.2.2.1,()) (nI)) fun (Z,A0,B0,C0,D0,E0,F0,G0,H0,I0,J0,K0,L0,M0,N0,O0,P0,Q0,R0,S0,T0,U0,V0,W0,_)=>
   (fM (K0,L0)).bind fun r7=>
   (gf V0 A0 [((F0,G0,J0,(0,0),r7.1,M0,(0,0),(0,0),(0,0),0,0),Z,(-1),[])]).bind fun r8=>
   some (.inr (Z,A0,B0,C0,D0,E0,F0,G0,H0,I0,J0,K0,L0,M0,N0,O0,P0,Q0,R0,S0,T0,U0,r8.1,W0,()))
  else
   some (.inr (a1,r2.1,y1.1,y1.2.1,y1.2.2.1,y1.2.2.2.1,y1.2.2.2.2.1,y1.2.2.2.2.2.1,y1.2.2.2.2.2.2.1.1,y1.2.2.2.2.2.2.1.2,y1.2.2.2.2.2.2.2.1,y1.2.2.2.2.2.2.2.2.1.1,y1.2.2.2.2.2.2.2.2.1.2,y1.2.2.2.2.2.2.2.2.2.1,y1.2.2.2.2.2.2.2.2.2.2,a0.1.1,a0.1.2.1,a0.1.2.2.1,a0.1.2.2.2.1,a0.1.2.2.2.2.1,a0.1.2.2.2.2.2,a0.2.1,a0.2.2.1,a0.2.2.2.1,()))) fun (A,B,C,D,E,F,G,H,I,J,K,L,M,N,O,P,Q,R,S,T,U,V,W,Y,_)=>
 chk (decide (0<=B)&&decide (B<(W.length:Int))) <|
 aC (γ:=(Int×(Nat)×Int×Int×Int×Int×Int×Bys×Int×Int×Bys×Int×Int×Int×Int×Bys×Bys×Bys×Int×Int×(List ai)×(List aa)×(List an)×(List ah)×Unit)) (
  bif D==2 then
   (W[B.toNat]?).bind fun y10=>
   some (.inr (A,B.toNat,C,D,E,F,G,H,I,J,K,L,M,N,O,P,Q,R,S,T,U,V,List.set W B.toNat (y10.1,y10.2.1,(-1),y10.2.2.2),Y,()))
  else
   some (.inr (A,B.toNat,C,D,E,F,G,H,I,J,K,L,M,N,O,P,Q,R,S,T,U,V,W,Y,()))) fun (X0,Y0,Z0,A1,B1,C1,D1,E1,F1,G1,H1,I1,J1,K1,L1,M1,N1,O1,P1,Q1,R1,S1,T1,U1,_)=>
 aC (γ:=(Int×(Nat)×Int×Bool×Int×Int×Int×Int×Int×Bys×Int×Int×Bys×Int×Int×Int×Int×Bys×Bys×Bys×Int×Int×(List ai)×(List aa)×(List an)×(List ah)×Unit)) (
  bif C1==2 then
   some (.inr (X0,Y0,C1,C1==2,Z0,A1,B1,C1,D1,E1,F1,G1,H1,I1,J1,K1,L1,M1,N1,O1,P1,Q1,R1,S1,T1,U1,()))
  else
   bif C1==3 then
    some (.inr (X0,Y0,C1,C1==3,Z0,A1,B1,C1,D1,E1,F1,G1,H1,I1,J1,K1,L1,M1,N1,O1,P1,Q1,R1,S1,T1,U1,()))
   else
    some (.inr (X0,Y0,C1,C1==4,Z0,A1,B1,C1,D1,E1,F1,G1,H1,I1,J1,K1,L1,M1,N1,O1,P1,Q1,R1,S1,T1,U1,()))) fun (V1,W1,X1,Y1,_,_,_,_,_,_,Z1,A2,_,_,_,_,_,B2,C2,D2,E2,F2,G2,H2,I2,J2,_)=>
 aC (γ:=(Int×(Nat)×Bys×Bys×Bys×Int×Int×(List ai)×(List aa)×(List an)×(List ah)×Unit)) (
  bif Y1 then
   (I2[W1]?).bind fun y13=>
   some (.inr (V1,W1,B2,C2,D2,E2,F2,G2,H2,List.set I2 W1 (y13.1,V1,y13.2.2),J2,()))
  else
   bif X1==5 then
    (ga H2 I2 W1).bind fun z14=>
    some (.inr (V1,W1,B2,C2,D2,E2,F2,G2,H2,z14,J2,()))
   else
    bif X1==6 then
     (I2[W1]?).bind fun y15=>
     some (.inr (V1,W1,B2,C2,D2,E2,F2,G2,H2,List.set I2 W1 (y15.1,(-1),y15.2.2),J2,()))
    else
     bif X1==7 then
      (I2[W1]?).bind fun y16=>
      some (.inr (V1,W1,B2,C2,D2,E2,F2,G2,H2,List.set I2 W1 (y16.1,y16.2.1,V1,y16.2.2.2),J2,()))
     else
      bif X1==8 then
       (I2[W1]?).bind fun y17=>
       (vE y17.1).bind fun r18=>
       (I2[W1]?).bind fun y19=>
       (idx H2 y19.2.2.1).bind fun y20=>
       (jN r18.1 y20.2.2.2.2.2.2.1).bind fun r21=>
       (I2[W1]?).bind fun y22=>
       (idx H2 y22.2.2.1).bind fun y23=>
       (I2[W1]?).bind fun y24=>
       ((List.set I2 W1 ((y24.1.1,y24.1.2.1,y24.1.2.2.1,r21.1,y24.1.2.2.2.2),y24.2))[W1]?).bind fun y25=>
       ((List.set (List.set I2 W1 ((y24.1.1,y24.1.2.1,y24.1.2.2.1,r21.1,y24.1.2.2.2.2),y24.2)) W1 ((y25.1.1,y25.1.2.1,y25.1.2.2.1,y25.1.2.2.2.1,y25.1.2.2.2.2.1,y23.2.2.2.2.2.2.2.2.2.1,y25.1.2.2.2.2.2.2),y25.2))[W1]?).bind fun y26=>
       some (.inr (V1,W1,B2,C2,D2,E2,F2,G2,H2,List.set (List.set (List.set I2 W1 ((y24.1.1,y24.1.2.1,y24.1.2.2.1,r21.1,y24.1.2.2.2.2),y24.2)) W1 ((y25.1.1,y25.1.2.1,y25.1.2.2.1,y25.1.2.2.2.1,y25.1.2.2.2.2.1,y23.2.2.2.2.2.2.2.2.2.1,y25.1.2.2.2.2.2.2),y25.2)) W1 (y26.1,y26.2.1,(-1),y26.2.2.2),J2,()))
      else
       bif X1==9 then
        (I2[W1]?).bind fun y27=>
        (jN y27.1.2.2.2.2.2.2.1 (Z1,A2)).bind fun r28=>
        (I2[W1]?).bind fun y29=>
        some (.inr (V1,W1,B2,C2,D2,E2,F2,G2,H2,List.set I2 W1 ((y29.1.1,y29.1.2.1,y29.1.2.2.1,y29.1.2.2.2.1,y29.1.2.2.2.2.1,y29.1.2.2.2.2.2.1,r28.1,y29.1.2.2.2.2.2.2.2),y29.2),J2,()))
       else
        bif X1==10 then
         (I2[W1]?).bind fun y30=>
         (jN y30.1.2.2.2.2.2.2.2.1 (Z1,A2)).bind fun r31=>
         (I2[W1]?).bind fun y32=>
         some (.inr (V1,W1,B2,C2,D2,E2,F2,G2,H2,List.set I2 W1 ((y32.1.1,y32.1.2.1,y32.1.2.2.1,y32.1.2.2.2.1,y32.1.2.2.2.2.1,y32.1.2.2.2.2.2.1,y32.1.2.2.2.2.2.2.1,r31.1,y32.1.2.2.2.2.2.2.2.2),y32.2),J2,()))
        else
         bif X1==11 then
          (I2[W1]?).bind fun y33=>
          (jN y33.1.2.2.2.2.2.2.2.2.1 (Z1,A2)).bind fun r34=>
          (I2[W1]?).bind fun y35=>
          some (.inr (V1,W1,B2,C2,D2,E2,F2,G2,H2,List.set I2 W1 ((y35.1.1,y35.1.2.1,y35.1.2.2.1,y35.1.2.2.2.1,y35.1.2.2.2.2.1,y35.1.2.2.2.2.2.1,y35.1.2.2.2.2.2.2.1,y35.1.2.2.2.2.2.2.2.1,r34.1,y35.1.2.2.2.2.2.2.2.2.2),y35.2),J2,()))
         else
          some (.inr (V1,W1,B2,C2,D2,E2,F2,G2,H2,I2,J2,()))) fun (K2,L2,M2,N2,O2,P2,Q2,R2,S2,T2,U2,_)=>
 (T2[L2]?).bind fun y37=>
 (nx y37.1).bind fun r38=>
 (T2[L2]?).bind fun y39=>
 ((List.set T2 L2 (r38.1,y39.2))[L2]?).bind fun y40=>
 (gz y40.2.2.2).bind fun r41=>
 ((List.set T2 L2 (r38.1,y39.2))[L2]?).bind fun y42=>
 chk (decide (((r41.1.length)+1)*152<=140737488355328)&&decide ((r41.1.length)+1<=maxLen)) <|
 ((List.set T2 L2 (r38.1,y39.2))[L2]?).bind fun y43=>
 some (((M2,N2,O2,P2,Q2,R2),S2,List.set (List.set T2 L2 (r38.1,y39.2)) L2 (y43.1,y43.2.1,y43.2.2.1,r41.1++[(K2,y42.1)]),U2,()),())
abbrev zB:Type:=(List aa)×Int×(List ai)×Int×Int×Bys×Bys×Bys×Int×Int×(List ai)×(List aa)×(List an)×(List ah)×Unit
abbrev CQ:Type:=(((aj×(List aa)×(List an)×(List ah)×Unit)×Unit) ⊕ ((List aa)×Int×Bys×Bys×Bys×Int×Int×(List ai)×(List aa)×(List an)×(List ah)×Unit))
def CP (x1:zB) (again:zB->Option CQ):Option CQ:=
 match x1 with
 | (A,B,C,D,E,F,G,H,I,J,K,L,M,N,_)=>
 bif decide (E<D) then
  (idx C E).bind fun y2=>
  (fM y2.2.2.1).bind fun r3=>
  (fM y2.2.2.2.2.1).bind fun r4=>
  (nx (y2.1,y2.2.1,y2.2.2.2.1,r3.1,r4.1,y2.2.2.2.2.2,(0,0),(0,0),(0,0),0,0)).bind fun r5=>
  chk (decide (((M.length)+1)*184<=140737488355328)&&decide ((M.length)+1<=maxLen)) <|
  again (A,B,C,D,w64 (E+1),F,G,H,I,J,K,L,M++[(r5.1,(-1),(-1),[])],N,())
 else
  some (.inr (A,B,F,G,H,I,J,K,L,M,N,()))
abbrev CS:Type:=Int×(List aa)×Int×Int×Bys×Bys×Bys×Int×Int×(List ai)×(List aa)×(List an)×(List ah)×Unit
abbrev CR:Type:=(((aj×(List aa)×(List an)×(List ah)×Unit)×Unit) ⊕ (Bys×Bys×Bys×Int×Int×(List ai)×(List aa)×(List an)×(List ah)×Unit))
def zA (x1:CS) (again:CS->Option CR):Option CR:=
 match x1 with
 | (A,B,C,D,E,F,G,H,I,J,K,L,M,_)=>
 bif decide (D<C) then
  (idx B D).bind fun y2=>
  bif decide (y2.1>A) then
   again (A,B,C,w64 (D+1),E,F,G,H,I,J,K,L,M,())
  else
   (qL ((E,F,G,H,I,J),K,L,M) D).bind fun r3=>
   bif r3.1 != 0 then
    chk (decide (((M.length)+1)*16<=140737488355328)&&decide ((M.length)+1<=maxLen)) <|
    again (A,B,C,w64 (D+1),E,F,G,H,I,J,K,L,M++[(D,r3.1)],())
   else
    (jc ((E,F,G,H,I,J),K,L,M,()) D).bind fun r4=>
    again (A,B,C,w64 (D+1),r4.1.1.1,r4.1.1.2.1,r4.1.1.2.2.1,r4.1.1.2.2.2.1,r4.1.1.2.2.2.2.1,r4.1.1.2.2.2.2.2,r4.1.2.1,r4.1.2.2.1,r4.1.2.2.2.1,())
 else
  some (.inr (E,F,G,H,I,J,K,L,M,()))
def Jd (a0:aj) (a1:List aa) (a2:Int):Option ((aj×(List aa)×(List an)×(List ah)×Unit)×Unit):=
 aC (
  iter (X:=zB) (β:=CQ) (a1.length+(a2.natAbs+(a0.2.2.2.2.2.length+(Int.natAbs ((a0.2.2.2.2.2.length:Int))+(Int.natAbs (0:Int)+(a0.1.length+(a0.2.1.length+(a0.2.2.1.length+(a0.2.2.2.1.natAbs+(a0.2.2.2.2.1.natAbs+(a0.2.2.2.2.2.length+(a1.length+(List.length ([]:List an)+(List.length ([]:List ah)+2)))))))))))))) (a1,a2,a0.2.2.2.2.2,(a0.2.2.2.2.2.length:Int),0,a0.1,a0.2.1,a0.2.2.1,a0.2.2.2.1,a0.2.2.2.2.1,a0.2.2.2.2.2,a1,[],[],()) (CP)) fun (A,B,C,D,E,F,G,H,I,J,K,_)=>
 aC (
  iter (X:=CS) (β:=CR) (B.natAbs+(A.length+(Int.natAbs ((A.length:Int))+(Int.natAbs (0:Int)+(C.length+(D.length+(E.length+(F.natAbs+(G.natAbs+(H.length+(I.length+(J.length+(K.length+2))))))))))))) (B,A,(A.length:Int),0,C,D,E,F,G,H,I,J,K,()) (zA)) fun (L,M,N,O,P,Q,R,S,T,_)=>
 some (((L,M,N,O,P,Q),R,S,T,()),())
end Go.Md
end
