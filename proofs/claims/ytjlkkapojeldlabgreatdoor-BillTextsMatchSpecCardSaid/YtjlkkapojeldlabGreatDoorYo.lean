/-
  The plain models of the functions that the law reaches, third part. No condition.
-/
import Derived.Test.YtjlkkapojeldlabGreatDoorYn
import Derived.Test.YtjlkkapojeldlabGreatDoorYd
import Derived.Lib.Atoi
import Derived.Lib.IndexBytes
namespace Go.Md
open Go.Dn
def cY (s:Bys) (c:Int):Option (Int×Unit):=some (Lib.indexByte s c.toNat.toUInt8,())
def bh (c:UInt8):Bys->List Bys
 | []=>[[]]
 | b::r=>bif b==c then []::bh c r else (match bh c r with
  | h::t=>(b::h)::t
  | []=>[[b]])
def strings_Split (s sep:Bys):Option (List Bys×Unit):=match sep with
 | [c]=>bif decide (s.length<4294967281) then some (bh c s,()) else none
 | _=>none
def WR (b:UInt8):Bool:=decide (48<=b.toNat)&&decide (b.toNat<=57)
def oG (s:Bys) (most:Int):Option (Int×Bool×Unit):=
 bif decide (most<(s.length:Int)) then some (0,false,())
 else bif decide (s.length<=18) then (bif !(!(s==[])&&s.all WR)||(decide (1<s.length)&&s.head? ==some 48) then some (0,false,()) else (Lib.atoi s).bind fun n=>some (n,true,())) else none
noncomputable section
abbrev QF:Type:=Int×Int×Int
abbrev C7:Type:=Bool×Bool×Bool×Bool×Bool
abbrev RL:Type:=Bool×Bool×Bool×Bool×Bool×Bool
abbrev Wa:Type:=Int×Bys×ah×Bys×ah×Int
abbrev eU:Type:=Int×Int×Int×Int×Int×Bys×ah×Bys×ah×Int×Int
abbrev C6:Type:=Bys×Bys×Bys×Int×Int×(List Wa)
abbrev RJ:Type:=Int×Bys×Bys×Int×Int×Int×Int×ah×Int×Int×QF
abbrev tE:Type:=Int×Kx
def To (a0:Int):Option (RL×Unit):=
 bif a0==1 then
  some ((true,true,true,true,true,false),())
 else
  bif a0==3 then
   some ((false,false,false,false,true,false),())
  else
   bif a0==4 then
    some ((false,false,false,true,false,false),())
   else
    bif a0==5 then
     bif a0==5 then
      some ((false,false,false,false,false,true),())
     else
      bif a0==7 then
       some ((false,true,false,false,true,false),())
      else
       some ((false,true,false,false,false,false),())
    else
     bif a0==6 then
      bif a0==6 then
       some ((false,false,false,false,false,true),())
      else
       bif a0==7 then
        some ((false,true,false,false,true,false),())
       else
        some ((false,true,false,false,false,false),())
     else
      bif a0==8 then
       some ((false,false,false,false,false,true),())
      else
       bif a0==7 then
        some ((false,true,false,false,true,false),())
       else
        some ((false,true,false,false,false,false),())
def iE (a0:Bys) (a1:Bys):Option (Bool×Unit):=
 bif decide (((a0.length:Int))>=((a1.length:Int))) then
  chk (decide (0<=(w64 (((a0.length:Int)) - ((a1.length:Int)))))&&decide ((w64 (((a0.length:Int)) - ((a1.length:Int))))<=((a0.length:Int)))&&decide (((a0.length:Int))<=(a0.length:Int))) <|
  some ((List.drop (Int.toNat (w64 (((a0.length:Int)) - ((a1.length:Int))))) (List.take (Int.toNat ((a0.length:Int))) a0))==a1,())
 else
  some (false,())
def iC (a0:Bys) (a1:Bys):Option (Bys×Bool×Unit):=
 (iE a0 a1).bind fun r1=>
 bif !r1.1 then
  some (a0,false,())
 else
  chk (decide (0<=(0:Int))&&decide ((0:Int)<=(w64 (((a0.length:Int)) - ((a1.length:Int)))))&&decide ((w64 (((a0.length:Int)) - ((a1.length:Int))))<=(a0.length:Int))) <|
  some (List.drop 0 (List.take (Int.toNat (w64 (((a0.length:Int)) - ((a1.length:Int))))) a0),true,())
def ny (a0:Bys) (a1:Bys):Option (Bys×Bool×Unit):=
 (iC a0 a1).bind fun r1=>
 some (r1.1,r1.2.1,())
def om (a0:Bys):Option ((List Bys)×Bool×Unit):=
 bif a0==[] then
  some ([],true,())
 else
  (ny a0 [10]).bind fun r1=>
  (strings_Split r1.1 [10]).bind fun r2=>
  some (r2.1,r1.2.1,())
abbrev qL:Type:=Int×Int×(List Bys)×Unit
abbrev BH:Type:=(((List Bys)×Bool×Unit) ⊕ ((List Bys)×Unit))
def wA (x1:qL) (again:qL->Option BH):Option BH:=
 match x1 with
 | (A,B,C,_)=>
 bif decide (B<A) then
  chk (decide (0<=B)&&decide (B<(C.length:Int))) <|
  (C[B.toNat]?).bind fun y2=>
  bif y2==[] then
   some (.inl ([],false,()))
  else
   again (A,w64 (B+1),C,())
 else
  some (.inr (C,()))
def iR (a0:Bys):Option ((List Bys)×Bool×Unit):=
 (strings_Split a0 [32]).bind fun r1=>
 aJ (
  iter (X:=qL) (β:=BH) (Int.natAbs ((r1.1.length:Int))+(Int.natAbs (0:Int)+(r1.1.length+2))) ((r1.1.length:Int),0,r1.1,()) (wA)) fun v4=>
 some (v4.1,true,())
def kX (a0:(List Bys)×Bool×Unit):Option (Bys×((List Bys)×Bool×Unit)×Unit):=
 bif ((a0.1.length:Int))==0 then
  some ([],(a0.1,true,()),())
 else
  (idx a0.1 0).bind fun y1=>
  chk (decide (0<=(1:Int))&&decide ((1:Int)<=((a0.1.length:Int)))&&decide (((a0.1.length:Int))<=(a0.1.length:Int))) <|
  some (y1,(List.drop 1 (List.take (Int.toNat ((a0.1.length:Int))) a0.1),a0.2.1,()),())
def jA (a0:(List Bys)×Bool×Unit):Option (Int×((List Bys)×Bool×Unit)×Unit):=
 (kX (a0.1,a0.2.1,())).bind fun r1=>
 (oG r1.1 16).bind fun r2=>
 bif r1.2.1.2.1 then
  some (r2.1,(r1.2.1.1,true,()),())
 else
  some (r2.1,(r1.2.1.1, !r2.2.1,()),())
def Rj:Option ((List Bys)×Unit):=
 some ([[],[98,117,121,101,114],[115,101,108,108,101,114]],())
def AA (a0:(List Bys)×Bool×Unit) (a1:List Bys):Option (Int×((List Bys)×Bool×Unit)×Unit):=
 (kX (a0.1,a0.2.1,())).bind fun r1=>
 (lF a1 r1.1).bind fun r2=>
 bif r1.2.1.2.1 then
  some (r2.1,(r1.2.1.1,true,()),())
 else
  some (r2.1,(r1.2.1.1,decide (r2.1<1),()),())
def Nu:Option ((List Bys)×Unit):=
 some ([[],[97,100,100],[113,117,97,110,116,105,116,121],[100,117,101],[112,114,105,99,101],[121,101,115],[110,111],[111,102,102,101,114],[116,97,107,101],[115,104,105,112],[114,101,99,101,105,118,101],[114,101,116,117,114,110]],())
def iD (a0:Bys) (a1:Bys):Option (Bool×Unit):=
 bif decide (((a0.length:Int))>=((a1.length:Int))) then
  chk (decide (0<=(0:Int))&&decide ((0:Int)<=((a1.length:Int)))&&decide (((a1.length:Int))<=(a0.length:Int))) <|
  some ((List.drop 0 (List.take (Int.toNat ((a1.length:Int))) a0))==a1,())
 else
  some (false,())
def iB (a0:Bys) (a1:Bys):Option (Bys×Bool×Unit):=
 (iD a0 a1).bind fun r1=>
 bif !r1.1 then
  some (a0,false,())
 else
  chk (decide (0<=((a1.length:Int)))&&decide (((a1.length:Int))<=((a0.length:Int)))&&decide (((a0.length:Int))<=(a0.length:Int))) <|
  some (List.drop (Int.toNat ((a1.length:Int))) (List.take (Int.toNat ((a0.length:Int))) a0),true,())
def ki (a0:Bys) (a1:Bys):Option (Bys×Bool×Unit):=
 (iB a0 a1).bind fun r1=>
 some (r1.1,r1.2.1,())
def gO (a0:Bys) (a1:Bys):Option (Int×Unit):=
 bif ((a1.length:Int))==0 then
  some (0,())
 else
  bif a1==a0 then
   some (0,())
  else
   bif ((a1.length:Int))==1 then
    (iS a1 0).bind fun c1=>
    (cY a0 (c1.toNat:Int)).bind fun r2=>
    some (r2.1,())
   else
    bif decide (((a1.length:Int))>=((a0.length:Int))) then
     some ((-1),())
    else
     none
def kT (a0:Bys) (a1:Bys):Option (Bys×Bys×Bool×Unit):=
 (gO a0 a1).bind fun r1=>
 bif decide (r1.1>=0) then
  chk (decide (0<=(0:Int))&&decide ((0:Int)<=r1.1)&&decide (r1.1<=(a0.length:Int))) <|
  chk (decide (0<=(w64 (r1.1+((a1.length:Int)))))&&decide ((w64 (r1.1+((a1.length:Int))))<=((a0.length:Int)))&&decide (((a0.length:Int))<=(a0.length:Int))) <|
  some (List.drop 0 (List.take (Int.toNat r1.1) a0),List.drop (Int.toNat (w64 (r1.1+((a1.length:Int))))) (List.take (Int.toNat ((a0.length:Int))) a0),true,())
 else
  some (a0,[],false,())
def uo (a0:Bys) (a1:Bys):Option (Bys×Bys×Bool×Unit):=
 (kT a0 a1).bind fun r1=>
 some (r1.1,r1.2.1,r1.2.2.1,())
def rU (a0:Bys):Option (Bool×Unit):=
 (
  Option.bind (nO a0) fun r1=>
  bif r1.1 then
   bif ((a0.length:Int))==1 then
    some (true,())
   else
    Option.bind (iS a0 0) fun c2=>
    some ((c2.toNat:Int) != 48,())
  else
   some (false,())).bind fun v3=>
 some (v3.1,())
abbrev nE:Type:=Bool×Bys×Bys×Int×Int×Int×Int×Bool×(List Int)×Unit
abbrev xF:Type:=((ah×Int×Unit) ⊕ (Bool×Bys×Int×Int×Bool×(List Int)×Unit))
def rW (x1:nE) (again:nE->Option xF):Option xF:=
 match x1 with
 | (A,B,C,D,E,F,G,H,I,_)=>
 bif decide (E<D) then
  (oX 10).bind fun r2=>
  (mP (H,I) r2.1).bind fun r3=>
  chk (decide (B.length+C.length<=maxLen)) <|
  (iS (B++C) E).bind fun c4=>
  (oX (w64 (wu8 ((c4.toNat:Int) - 48)))).bind fun r5=>
  (nY r3.1 r5.1).bind fun r6=>
  again (A,B,C,D,w64 (E+1),F,G,r6.1.1,r6.1.2,())
 else
  some (.inr (A,C,F,G,H,I,()))
def yC (a0:Bool) (a1:Bys) (a2:Bys):Option (ah×Int×Unit):=
 (oX 0).bind fun r1=>
 chk (decide (a1.length+a2.length<=maxLen)) <|
 aJ (
  iter (X:=nE) (β:=xF) (a1.length+(a2.length+(Int.natAbs ((List.length (a1++a2):Int))+(Int.natAbs (0:Int)+(Int.natAbs (0:Int)+(Int.natAbs (0:Int)+(r1.1.2.length+2))))))) (a0,a1,a2,(List.length (a1++a2):Int),0,0,0,r1.1.1,r1.1.2,()) (rW)) fun (A,B,_,_,C,D,_)=>
 bif A then
  (jf (C,D)).bind fun r9=>
  bif r9.1==0 then
   some ((0,0),10,())
  else
   (jQ (C,D)).bind fun r10=>
   (mT r10.1 ((B.length:Int))).bind fun r11=>
   some (r11.1,r11.2.1,())
 else
  (mT (C,D) ((B.length:Int))).bind fun r12=>
  some (r12.1,r12.2.1,())
def l7 (a0:Bys):Option (ah×Int×Unit):=
 (ki a0 [45]).bind fun r1=>
 (uo r1.1 [46]).bind fun r2=>
 (
  bif decide (((a0.length:Int))>40) then
   some (true,())
  else
   Option.bind (rU r2.1) fun r3=>
   bif !r3.1 then
    some (true,())
   else
    bif r2.2.2.1 then
     Option.bind (nO r2.2.1) fun r4=>
     bif !r4.1 then
      some (true,())
     else
      some (decide (((r2.2.1.length:Int))>9),())
    else
     some (false,())).bind fun v5=>
 bif v5.1 then
  some ((0,0),10,())
 else
  (yC r1.2.1 r2.1 r2.2.1).bind fun r6=>
  some (r6.1,r6.2.1,())
def xw (a0:(List Bys)×Bool×Unit):Option (ah×((List Bys)×Bool×Unit)×Unit):=
 (kX (a0.1,a0.2.1,())).bind fun r1=>
 (l7 r1.1).bind fun r2=>
 bif r1.2.1.2.1 then
  some (r2.1,(r1.2.1.1,true,()),())
 else
  some (r2.1,(r1.2.1.1,r2.2.1 != 0,()),())
def Pm (a0:Bys):Option (eU×Bool×Unit):=
 (iR a0).bind fun r1=>
 bif !r1.2.1 then
  some ((0,0,0,0,0,[],(0,0),[],(0,0),0,0),false,())
 else
  (jA (r1.1,false,())).bind fun r2=>
  (Rj).bind fun r3=>
  (AA (r2.2.1.1,r2.2.1.2.1,()) r3.1).bind fun r4=>
  (jA (r4.2.1.1,r4.2.1.2.1,())).bind fun r5=>
  (Nu).bind fun r6=>
  (AA (r5.2.1.1,r5.2.1.2.1,()) r6.1).bind fun r7=>
  (jA (r7.2.1.1,r7.2.1.2.1,())).bind fun r8=>
  (To r7.1).bind fun r9=>
  aJ (γ:=(Int×Int×Int×Int×Int×Bys×Int×Int×Bys×Int×Int×Int×Int×Int×Int×Int×Int×Int×Bys×Int×Int×Bys×Int×Int×Int×Int×Bool×Bool×Bool×Bool×Bool×Bool×(List Bys)×Bool×Unit)) (
   bif r9.1.1 then
    (kX (r8.2.1.1,r8.2.1.2.1,())).bind fun r10=>
    some (.inr (0,0,0,0,0,[],0,0,[],0,0,0,0,r2.1,r4.1,r5.1,r7.1,r8.1,r10.1,0,0,[],0,0,0,0,r9.1.1,r9.1.2.1,r9.1.2.2.1,r9.1.2.2.2.1,r9.1.2.2.2.2.1,r9.1.2.2.2.2.2,r10.2.1.1,r10.2.1.2.1,()))
   else
    some (.inr (0,0,0,0,0,[],0,0,[],0,0,0,0,r2.1,r4.1,r5.1,r7.1,r8.1,[],0,0,[],0,0,0,0,r9.1.1,r9.1.2.1,r9.1.2.2.1,r9.1.2.2.2.1,r9.1.2.2.2.2.1,r9.1.2.2.2.2.2,r8.2.1.1,r8.2.1.2.1,()))) fun (A,B,C,D,E,F,G,H,I,J,K,L,M,N,O,P,Q,R,S,T,U,V,W,X,Y,Z,A0,B0,C0,D0,E0,F0,G0,H0,_)=>
  aJ (γ:=(Int×Int×Int×Int×Int×Bys×Int×Int×Bys×Int×Int×Int×Int×Int×Int×Int×Int×Int×Bys×Int×Int×Bys×Int×Int×Int×Int×Bool×Bool×Bool×Bool×Bool×Bool×(List Bys)×Bool×Unit)) (
   bif B0 then
    (xw (G0,H0,())).bind fun r12=>
    some (.inr (A,B,C,D,E,F,G,H,I,J,K,L,M,N,O,P,Q,R,S,r12.1.1,r12.1.2,V,W,X,Y,Z,A0,B0,C0,D0,E0,F0,r12.2.1.1,r12.2.1.2.1,()))
   else
    some (.inr (A,B,C,D,E,F,G,H,I,J,K,L,M,N,O,P,Q,R,S,T,U,V,W,X,Y,Z,A0,B0,C0,D0,E0,F0,G0,H0,()))) fun (I0,J0,K0,L0,M0,N0,O0,P0,Q0,R0,S0,T0,U0,V0,W0,X0,Y0,Z0,A1,B1,C1,D1,E1,F1,G1,H1,I1,J1,K1,L1,M1,N1,O1,P1,_)=>
  aJ (γ:=(Int×Int×Int×Int×Int×Bys×Int×Int×Bys×Int×Int×Int×Int×Int×Int×Int×Int×Int×Bys×Int×Int×Bys×Int×Int×Int×Int×Bool×Bool×Bool×Bool×Bool×Bool×(List Bys)×Bool×Unit)) (
   bif K1 then
    (kX (O1,P1,())).bind fun r14=>
    some (.inr (I0,J0,K0,L0,M0,N0,O0,P0,Q0,R0,S0,T0,U0,V0,W0,X0,Y0,Z0,A1,B1,C1,r14.1,E1,F1,G1,H1,I1,J1,K1,L1,M1,N1,r14.2.1.1,r14.2.1.2.1,()))
   else
    some (.inr (I0,J0,K0,L0,M0,N0,O0,P0,Q0,R0,S0,T0,U0,V0,W0,X0,Y0,Z0,A1,B1,C1,D1,E1,F1,G1,H1,I1,J1,K1,L1,M1,N1,O1,P1,()))) fun (Q1,R1,S1,T1,U1,V1,W1,X1,Y1,Z1,A2,B2,C2,D2,E2,F2,G2,H2,I2,J2,K2,L2,M2,N2,O2,P2,Q2,R2,S2,T2,U2,V2,W2,X2,_)=>
  aJ (γ:=(Int×Int×Int×Int×Int×Bys×Int×Int×Bys×Int×Int×Int×Int×Int×Int×Int×Int×Int×Bys×Int×Int×Bys×Int×Int×Int×Int×Bool×Bool×Bool×Bool×Bool×Bool×(List Bys)×Bool×Unit)) (
   bif T2 then
    (xw (W2,X2,())).bind fun r16=>
    some (.inr (Q1,R1,S1,T1,U1,V1,W1,X1,Y1,Z1,A2,B2,C2,D2,E2,F2,G2,H2,I2,J2,K2,L2,r16.1.1,r16.1.2,O2,P2,Q2,R2,S2,T2,U2,V2,r16.2.1.1,r16.2.1.2.1,()))
   else
    some (.inr (Q1,R1,S1,T1,U1,V1,W1,X1,Y1,Z1,A2,B2,C2,D2,E2,F2,G2,H2,I2,J2,K2,L2,M2,N2,O2,P2,Q2,R2,S2,T2,U2,V2,W2,X2,()))) fun (Y2,Z2,A3,B3,C3,D3,E3,F3,G3,H3,I3,J3,K3,L3,M3,N3,O3,P3,Q3,R3,S3,T3,U3,V3,W3,X3,Y3,Z3,A4,B4,C4,D4,E4,F4,_)=>
  aJ (γ:=(Int×Int×Int×Int×Int×Bys×Int×Int×Bys×Int×Int×Int×Int×Int×Int×Int×Int×Int×Bys×Int×Int×Bys×Int×Int×Int×Int×Bool×Bool×Bool×Bool×Bool×Bool×(List Bys)×Bool×Unit)) (
   bif C4 then
    (jA (E4,F4,())).bind fun r18=>
    some (.inr (Y2,Z2,A3,B3,C3,D3,E3,F3,G3,H3,I3,J3,K3,L3,M3,N3,O3,P3,Q3,R3,S3,T3,U3,V3,r18.1,X3,Y3,Z3,A4,B4,C4,D4,r18.2.1.1,r18.2.1.2.1,()))
   else
    some (.inr (Y2,Z2,A3,B3,C3,D3,E3,F3,G3,H3,I3,J3,K3,L3,M3,N3,O3,P3,Q3,R3,S3,T3,U3,V3,W3,X3,Y3,Z3,A4,B4,C4,D4,E4,F4,()))) fun (G4,H4,I4,J4,K4,L4,M4,N4,O4,P4,Q4,R4,S4,T4,U4,V4,W4,X4,Y4,Z4,A5,B5,C5,D5,E5,F5,_,_,_,_,_,G5,H5,I5,_)=>
  aJ (γ:=(Int×Int×Int×Int×Int×Bys×Int×Int×Bys×Int×Int×Int×Int×Int×Int×Int×Int×Int×Bys×Int×Int×Bys×Int×Int×Int×Int×(List Bys)×Bool×Unit)) (
   bif G5 then
    (jA (H5,I5,())).bind fun r20=>
    some (.inr (G4,H4,I4,J4,K4,L4,M4,N4,O4,P4,Q4,R4,S4,T4,U4,V4,W4,X4,Y4,Z4,A5,B5,C5,D5,E5,r20.1,r20.2.1.1,r20.2.1.2.1,()))
   else
    some (.inr (G4,H4,I4,J4,K4,L4,M4,N4,O4,P4,Q4,R4,S4,T4,U4,V4,W4,X4,Y4,Z4,A5,B5,C5,D5,E5,F5,H5,I5,()))) fun (_,_,_,_,_,_,_,_,_,_,_,_,_,J5,K5,L5,M5,N5,O5,P5,Q5,R5,S5,T5,U5,V5,W5,X5,_)=>
  bif !X5 then
   some ((J5,K5,L5,M5,N5,O5,(P5,Q5),R5,(S5,T5),U5,V5),((W5.length:Int))==0,())
  else
   some ((J5,K5,L5,M5,N5,O5,(P5,Q5),R5,(S5,T5),U5,V5),false,())
abbrev Gz:Type:=(List Bys)×Bool×(List eU)×(List Bys)×Int×Int×Unit
abbrev Gy:Type:=(((List eU)×Int×Int×Unit) ⊕ ((List eU)×Unit))
def abM (x1:Gz) (again:Gz->Option Gy):Option Gy:=
 match x1 with
 | (A,B,C,D,E,F,_)=>
 bif decide (F<E) then
  (idx D F).bind fun y2=>
  (Pm y2).bind fun r3=>
  (
   bif !r3.2.1 then
    some (true,())
   else
    bif !B then
     some (F==(w64 (((A.length:Int)) - 1)),())
    else
     some (false,())).bind fun v4=>
  bif v4.1 then
   some (.inl ([],w64 (F+1),10,()))
  else
   chk (decide (((C.length)+1)*120<=140737488355328)&&decide ((C.length)+1<=maxLen)) <|
   again (A,B,C++[r3.1],D,E,w64 (F+1),())
 else
  some (.inr (C,()))
def Zk (a0:Int):Option (C7×Unit):=
 bif a0==1 then
  some ((true,true,true,true,false),())
 else
  aJ (γ:=(Int×Bool×Bool×Bool×Bool×Bool×Bool×Unit)) (
   bif a0==2 then
    some (.inr (a0,a0==2,false,false,false,false,false,()))
   else
    bif a0==9 then
     some (.inr (a0,a0==9,false,false,false,false,false,()))
    else
     bif a0==10 then
      some (.inr (a0,a0==10,false,false,false,false,false,()))
     else
      some (.inr (a0,a0==11,false,false,false,false,false,()))) fun v1=>
  bif v1.2.1 then
   some ((true,false,false,false,false),())
  else
   bif v1.1==3 then
    some ((false,false,true,false,false),())
   else
    bif v1.1==4 then
     some ((false,true,false,false,false),())
    else
     bif v1.1==7 then
      some ((true,false,true,false,false),())
     else
      some ((false,false,false,false,true),())
end
end Go.Md
set_option linter.all false
namespace Go.Md
open Go.Dn
noncomputable section
abbrev BW:Type:=Bys×Int×Int×Int×Unit
abbrev BV:Type:=((Int×Bool×Unit) ⊕ (Int×Unit))
def TB (x1:BW) (again:BW->Option BV):Option BV:=
 match x1 with
 | (A,B,C,D,_)=>
 bif decide (D<C) then
  (iS A D).bind fun c2=>
  bif decide ((c2.toNat:Int)<48) then
   some (.inl (0,false,()))
  else
   (iS A D).bind fun c3=>
   bif decide ((c3.toNat:Int)>57) then
    some (.inl (0,false,()))
   else
    (iS A D).bind fun c4=>
    let n5:Int:=w64 ((w64 (10*B))+(w64 (wu8 ((c4.toNat:Int) - 48))))
    again (A,n5,C,w64 (D+1),())
 else
  some (.inr (B,()))
def Zj (a0:Bys):Option (Int×Bool×Unit):=
 (
  bif a0==[] then
   some (true,())
  else
   bif decide (((a0.length:Int))>16) then
    some (true,())
   else
    bif decide (((a0.length:Int))>1) then
     Option.bind (iS a0 0) fun c1=>
     some ((c1.toNat:Int)==48,())
    else
     some (false,())).bind fun v2=>
 bif v2.1 then
  some (0,false,())
 else
  aJ (
   iter (X:=BW) (β:=BV) (a0.length+(Int.natAbs (0:Int)+(Int.natAbs ((a0.length:Int))+(Int.natAbs (0:Int)+2)))) (a0,0,(a0.length:Int),0,()) (TB)) fun v8=>
  some (v8.1,true,())
def jc (a0:Bool×Unit) (a1:Bys):Option (Int×(Bool×Unit)×Unit):=
 (Zj a1).bind fun r1=>
 bif a0.1 then
  some (r1.1,(r1.2.1,()),())
 else
  some (r1.1,(false,()),())
abbrev yf:Type:=Bys×Int×Int×Int×Unit
abbrev ye:Type:=((Int×Bool×Unit) ⊕ (Int×Unit))
def Pv (x1:yf) (again:yf->Option ye):Option ye:=
 bif decide (x1.2.2.2.1<x1.2.2.1) then
  (iS x1.1 x1.2.2.2.1).bind fun c2=>
  let n3:Int:=w64 ((w64 (10*x1.2.1))+(w64 (wu8 ((c2.toNat:Int) - 48))))
  bif decide (n3>1000000000000000) then
   some (.inl (0,false,()))
  else
   again (x1.1,n3,x1.2.2.1,w64 (x1.2.2.2.1+1),())
 else
  some (.inr (x1.2.1,()))
def U9 (a0:Bys):Option (Int×Bool×Unit):=
 aJ (
  iter (X:=yf) (β:=ye) (a0.length+(Int.natAbs (0:Int)+(Int.natAbs ((a0.length:Int))+(Int.natAbs (0:Int)+2)))) (a0,0,(a0.length:Int),0,()) (Pv)) fun v4=>
 some (v4.1,true,())
def U8 (a0:Bys):Option (ah×Int×Unit):=
 bif decide (((a0.length:Int))>40) then
  some ((0,0),10,())
 else
  (ki a0 [45]).bind fun r1=>
  (uo r1.1 [46]).bind fun r2=>
  (
   Option.bind (DB r2.1) fun r3=>
   bif !r3.1 then
    some (true,())
   else
    bif decide (((r2.1.length:Int))>1) then
     Option.bind (iS r2.1 0) fun c4=>
     bif (c4.toNat:Int)==48 then
      some (true,())
     else
      bif r2.2.2.1 then
       Option.bind (DB r2.2.1) fun r5=>
       bif !r5.1 then
        some (true,())
       else
        some (decide (((r2.2.1.length:Int))>9),())
      else
       some (decide (((r2.2.1.length:Int))>9),())
    else
     bif r2.2.2.1 then
      Option.bind (DB r2.2.1) fun r6=>
      bif !r6.1 then
       some (true,())
      else
       some (decide (((r2.2.1.length:Int))>9),())
     else
      some (decide (((r2.2.1.length:Int))>9),())).bind fun v7=>
  bif v7.1 then
   some ((0,0),10,())
  else
   (
    bif r1.2.1 then
     chk (decide (r2.1.length+r2.2.1.length<=maxLen)) <|
     Option.bind (fV (r2.1++r2.2.1) [48]) fun r8=>
     some (r8.1==[],())
    else
     some (false,())).bind fun v9=>
   bif v9.1 then
    some ((0,0),10,())
   else
    chk (decide (r2.1.length+r2.2.1.length<=maxLen)) <|
    (U9 (r2.1++r2.2.1)).bind fun r10=>
    bif !r10.2.1 then
     some ((0,0),1,())
    else
     bif r1.2.1 then
      some ((w64 (0 - r10.1),(r2.2.1.length:Int)),0,())
     else
      some ((r10.1,(r2.2.1.length:Int)),0,())
def mJ (a0:Bool×Unit) (a1:Bys):Option (ah×(Bool×Unit)×Unit):=
 (U8 a1).bind fun r1=>
 bif a0.1 then
  some (r1.1,(r1.2.1==0,()),())
 else
  some (r1.1,(false,()),())
def acv (a0:Bys):Option (eU×Bool×Unit):=
 (strings_Split a0 [32]).bind fun r1=>
 (
  bif decide (((r1.1.length:Int))<6) then
   some (true,())
  else
   chk (decide (0<=(1:Int))&&decide ((1:Int)<(r1.1.length:Int))) <|
   Option.bind (r1.1[1]?) fun y2=>
   bif !(y2==[98,117,121,101,114]) then
    chk (decide (0<=(1:Int))&&decide ((1:Int)<(r1.1.length:Int))) <|
    Option.bind (r1.1[1]?) fun y3=>
    bif !(y3==[115,101,108,108,101,114]) then
     some (true,())
    else
     Option.bind (jr r1.1 []) fun r4=>
     some (r4.1,())
   else
    Option.bind (jr r1.1 []) fun r5=>
    some (r5.1,())).bind fun v6=>
 bif v6.1 then
  some ((0,0,0,0,0,[],(0,0),[],(0,0),0,0),false,())
 else
  chk (decide (0<=(0:Int))&&decide ((0:Int)<(r1.1.length:Int))) <|
  (r1.1[0]?).bind fun y7=>
  chk (decide (0<=(2:Int))&&decide ((2:Int)<(r1.1.length:Int))) <|
  (r1.1[2]?).bind fun y8=>
  chk (decide (0<=(3:Int))&&decide ((3:Int)<(r1.1.length:Int))) <|
  (r1.1[3]?).bind fun y9=>
  chk (decide (0<=(4:Int))&&decide ((4:Int)<(r1.1.length:Int))) <|
  (r1.1[4]?).bind fun y10=>
  (jc (true,()) y7).bind fun r11=>
  (jc (r11.2.1.1,()) y8).bind fun r12=>
  (strings_Split [97,100,100,32,113,117,97,110,116,105,116,121,32,100,117,101,32,112,114,105,99,101,32,121,101,115,32,110,111,32,111,102,102,101,114,32,116,97,107,101,32,115,104,105,112,32,114,101,99,101,105,118,101,32,114,101,116,117,114,110] [32]).bind fun r13=>
  (lF r13.1 y9).bind fun r14=>
  (jc (r12.2.1.1,()) y10).bind fun r15=>
  chk (decide (0<=(1:Int))&&decide ((1:Int)<(r1.1.length:Int))) <|
  (r1.1[1]?).bind fun y16=>
  aJ (γ:=(Int×Int×Int×Int×Int×Bys×Int×Int×Bys×Int×Int×Int×Int×Bool×Int×Int×Int×Int×Int×Bys×Int×Int×Bys×Int×Int×Int×Int×(List Bys)×Unit)) (
   bif y16==[115,101,108,108,101,114] then
    some (.inr (0,0,0,0,0,[],0,0,[],0,0,0,0,r15.2.1.1,r11.1,2,r12.1,w64 (r14.1+1),r15.1,[],0,0,[],0,0,0,0,r1.1,()))
   else
    some (.inr (0,0,0,0,0,[],0,0,[],0,0,0,0,r15.2.1.1,r11.1,1,r12.1,w64 (r14.1+1),r15.1,[],0,0,[],0,0,0,0,r1.1,()))) fun (_,_,_,_,_,_,_,_,_,_,_,_,_,A,B,C,D,E,F,G,H,I,J,K,L,M,N,O,_)=>
  bif E==0 then
   some ((0,0,0,0,0,[],(0,0),[],(0,0),0,0),false,())
  else
   (Zk E).bind fun r18=>
   chk (decide (0<=(5:Int))&&decide ((5:Int)<=((O.length:Int)))&&decide (((O.length:Int))<=(O.length:Int))) <|
   (
    bif r18.1.2.2.2.1 then
     some (((List.length (List.drop 5 (List.take (Int.toNat ((O.length:Int))) O)):Int))==5,())
    else
     some (false,())).bind fun v19=>
   bif v19.1 then
    (idx (List.drop 5 (List.take (Int.toNat ((O.length:Int))) O)) 0).bind fun y20=>
    (idx (List.drop 5 (List.take (Int.toNat ((O.length:Int))) O)) 1).bind fun y21=>
    (idx (List.drop 5 (List.take (Int.toNat ((O.length:Int))) O)) 2).bind fun y22=>
    (idx (List.drop 5 (List.take (Int.toNat ((O.length:Int))) O)) 3).bind fun y23=>
    (idx (List.drop 5 (List.take (Int.toNat ((O.length:Int))) O)) 4).bind fun y24=>
    (mJ (A,()) y21).bind fun r25=>
    (mJ (r25.2.1.1,()) y23).bind fun r26=>
    (jc (r26.2.1.1,()) y24).bind fun r27=>
    some ((B,C,D,E,F,y20,r25.1,y22,r26.1,r27.1,N),r27.2.1.1,())
   else
    bif r18.1.2.2.2.1 then
     some ((B,C,D,E,F,G,(H,I),J,(K,L),M,N),false,())
    else
     (
      bif r18.1.1 then
       bif r18.1.2.2.1 then
        some (((List.length (List.drop 5 (List.take (Int.toNat ((O.length:Int))) O)):Int))==2,())
       else
        some (false,())
      else
       some (false,())).bind fun v28=>
     bif v28.1 then
      (idx (List.drop 5 (List.take (Int.toNat ((O.length:Int))) O)) 0).bind fun y29=>
      (idx (List.drop 5 (List.take (Int.toNat ((O.length:Int))) O)) 1).bind fun y30=>
      (mJ (A,()) y29).bind fun r31=>
      (jc (r31.2.1.1,()) y30).bind fun r32=>
      some ((B,C,D,E,F,G,r31.1,J,(K,L),r32.1,N),r32.2.1.1,())
     else
      (
       bif ((List.length (List.drop 5 (List.take (Int.toNat ((O.length:Int))) O)):Int)) != 1 then
        some (true,())
       else
        bif r18.1.1 then
         some (r18.1.2.2.1,())
        else
         some (false,())).bind fun v33=>
      bif v33.1 then
       some ((B,C,D,E,F,G,(H,I),J,(K,L),M,N),false,())
      else
       bif r18.1.1 then
        (idx (List.drop 5 (List.take (Int.toNat ((O.length:Int))) O)) 0).bind fun y34=>
        (mJ (A,()) y34).bind fun r35=>
        some ((B,C,D,E,F,G,r35.1,J,(K,L),M,N),r35.2.1.1,())
       else
        bif r18.1.2.1 then
         (idx (List.drop 5 (List.take (Int.toNat ((O.length:Int))) O)) 0).bind fun y36=>
         (mJ (A,()) y36).bind fun r37=>
         some ((B,C,D,E,F,G,(H,I),J,r37.1,M,N),r37.2.1.1,())
        else
         bif r18.1.2.2.1 then
          (idx (List.drop 5 (List.take (Int.toNat ((O.length:Int))) O)) 0).bind fun y38=>
          (jc (A,()) y38).bind fun r39=>
          some ((B,C,D,E,F,G,(H,I),J,(K,L),r39.1,N),r39.2.1.1,())
         else
          (idx (List.drop 5 (List.take (Int.toNat ((O.length:Int))) O)) 0).bind fun y40=>
          (jc (A,()) y40).bind fun r41=>
          some ((B,C,D,E,F,G,(H,I),J,(K,L),M,r41.1),r41.2.1.1,())
end
end Go.Md
