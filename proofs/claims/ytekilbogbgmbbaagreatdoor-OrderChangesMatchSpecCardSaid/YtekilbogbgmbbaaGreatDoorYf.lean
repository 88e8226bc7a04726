/-
  The plain models of the functions that the law reaches, fifth part. No condition.
-/
import Derived.Test.YtekilbogbgmbbaaGreatDoorYg
set_option linter.all false
noncomputable section
namespace Go.Md
open Go.Dn
noncomputable section
abbrev pS:Type:=(List ai)×Int×Int×(List (Int×ai))×Unit
abbrev zY:Type:=(((List (Int×ai))×Unit) ⊕ ((List (Int×ai))×Unit))
def uA (x1:pS) (again:pS->Option zY):Option zY:=
 bif decide (x1.2.2.1<x1.2.1) then
  (idx x1.1 x1.2.2.1).bind fun y2=>
  again (x1.1,x1.2.1,w64 (x1.2.2.1+1),lq (k:=tI) (v:=aJ) x1.2.2.2.1 y2.1 y2,())
 else
  some (.inr (x1.2.2.2.1,()))
def gF (a0:aj):Option ((List (Int×ai))×Unit):=
 aC (
  iter (X:=pS) (β:=zY) (a0.2.2.2.2.2.length+(Int.natAbs ((a0.2.2.2.2.2.length:Int))+(Int.natAbs (0:Int)+(List.length ([]:List (Int×ai))+2)))) (a0.2.2.2.2.2,(a0.2.2.2.2.2.length:Int),0,[],()) (uA)) fun v3=>
 some (v3.1,())
def om (a0:ah) (a1:ah):Option (Bool×Unit):=
 (nT a0).bind fun r1=>
 (nT a1).bind fun r2=>
 some (!((r1.1.1==r2.1.1)&&((r1.1.2==r2.1.2)&&true)),())
def iM (a0:ai) (a1:ai) (a2:Bool) (a3:Bool) (a4:aa):Option ((List aa)×Unit):=
 bif !a2 then
  some ([(a4.1,a4.2.1,a4.2.2.1,1,a4.2.2.2.2.1,a1.2.1,a1.2.2.1,a1.2.2.2.1,a1.2.2.2.2.1,a1.2.2.2.2.2,a4.2.2.2.2.2.2.2.2.2.2)],())
 else
  bif !a3 then
   aC (γ:=(Bool×Int×Bys×Int×Int×Bys×Int×Int×Int×Int×Bys×Int×Int×Bys×Int×Int×Int×Int×Int×Int×Int×Int×Bys×Int×Int×Bys×Int×Int×Int×Int×(List aa)×Unit)) (
    some (.inr (a3,a0.1,a0.2.1,a0.2.2.1.1,a0.2.2.1.2,a0.2.2.2.1,a0.2.2.2.2.1.1,a0.2.2.2.2.1.2,a0.2.2.2.2.2,a1.1,a1.2.1,a1.2.2.1.1,a1.2.2.1.2,a1.2.2.2.1,a1.2.2.2.2.1.1,a1.2.2.2.2.1.2,a1.2.2.2.2.2,a4.1,a4.2.1,a4.2.2.1,a4.2.2.2.1,a4.2.2.2.2.1,a4.2.2.2.2.2.1,a4.2.2.2.2.2.2.1.1,a4.2.2.2.2.2.2.1.2,a4.2.2.2.2.2.2.2.1,a4.2.2.2.2.2.2.2.2.1.1,a4.2.2.2.2.2.2.2.2.1.2,a4.2.2.2.2.2.2.2.2.2.1,a4.2.2.2.2.2.2.2.2.2.2,[(a4.1,a4.2.1,a4.2.2.1,2,a4.2.2.2.2.1,a4.2.2.2.2.2.1,a1.2.2.1,a4.2.2.2.2.2.2.2)],()))) fun (A,B,C,D,E,F,G,H,I,J,K,L,M,N,O,P,Q,R,S,T,U,V,W,X,Y,Z,A0,B0,C0,D0,E0,_)=>
   (
    bif A then
     some (I != Q,())
    else
     some (false,())).bind fun v2=>
   aC (γ:=(Bool×(List aa)×Int×Bys×Int×Int×Bys×Int×Int×Int×Int×Bys×Int×Int×Bys×Int×Int×Int×Int×Int×Int×Int×Int×Bys×Int×Int×Bys×Int×Int×Int×Int×Unit)) (
    bif v2.1 then
     chk (decide (((E0.length)+1)*120<=140737488355328)&&decide ((E0.length)+1<=maxLen)) <|
     some (.inr (A,E0++[(R,S,T,3,V,W,(X,Y),Z,(A0,B0),Q,D0)],B,C,D,E,F,G,H,I,J,K,L,M,N,O,P,Q,R,S,T,U,V,W,X,Y,Z,A0,B0,C0,D0,()))
    else
     some (.inr (A,E0,B,C,D,E,F,G,H,I,J,K,L,M,N,O,P,Q,R,S,T,U,V,W,X,Y,Z,A0,B0,C0,D0,()))) fun (F0,G0,_,_,_,_,_,H0,I0,_,_,_,_,_,_,J0,K0,_,L0,M0,N0,_,O0,P0,Q0,R0,S0,_,_,T0,U0,_)=>
   (
    bif F0 then
     Option.bind (om (H0,I0) (J0,K0)) fun r4=>
     some (r4.1,())
    else
     some (false,())).bind fun v5=>
   bif v5.1 then
    chk (decide (((G0.length)+1)*120<=140737488355328)&&decide ((G0.length)+1<=maxLen)) <|
    some (G0++[(L0,M0,N0,4,O0,P0,(Q0,R0),S0,(J0,K0),T0,U0)],())
   else
    some (G0,())
  else
   (om a0.2.2.1 a1.2.2.1).bind fun r6=>
   aC (γ:=(Bool×(List aa)×Int×Bys×Int×Int×Bys×Int×Int×Int×Int×Bys×Int×Int×Bys×Int×Int×Int×Int×Int×Int×Int×Int×Bys×Int×Int×Bys×Int×Int×Int×Int×Unit)) (
    bif r6.1 then
     some (.inr (a3,[(a4.1,a4.2.1,a4.2.2.1,2,a4.2.2.2.2.1,a4.2.2.2.2.2.1,a1.2.2.1,a4.2.2.2.2.2.2.2)],a0.1,a0.2.1,a0.2.2.1.1,a0.2.2.1.2,a0.2.2.2.1,a0.2.2.2.2.1.1,a0.2.2.2.2.1.2,a0.2.2.2.2.2,a1.1,a1.2.1,a1.2.2.1.1,a1.2.2.1.2,a1.2.2.2.1,a1.2.2.2.2.1.1,a1.2.2.2.2.1.2,a1.2.2.2.2.2,a4.1,a4.2.1,a4.2.2.1,a4.2.2.2.1,a4.2.2.2.2.1,a4.2.2.2.2.2.1,a4.2.2.2.2.2.2.1.1,a4.2.2.2.2.2.2.1.2,a4.2.2.2.2.2.2.2.1,a4.2.2.2.2.2.2.2.2.1.1,a4.2.2.2.2.2.2.2.2.1.2,a4.2.2.2.2.2.2.2.2.2.1,a4.2.2.2.2.2.2.2.2.2.2,()))
    else
     some (.inr (a3,[],a0.1,a0.2.1,a0.2.2.1.1,a0.2.2.1.2,a0.2.2.2.1,a0.2.2.2.2.1.1,a0.2.2.2.2.1.2,a0.2.2.2.2.2,a1.1,a1.2.1,a1.2.2.1.1,a1.2.2.1.2,a1.2.2.2.1,a1.2.2.2.2.1.1,a1.2.2.2.2.1.2,a1.2.2.2.2.2,a4.1,a4.2.1,a4.2.2.1,a4.2.2.2.1,a4.2.2.2.2.1,a4.2.2.2.2.2.1,a4.2.2.2.2.2.2.1.1,a4.2.2.2.2.2.2.1.2,a4.2.2.2.2.2.2.2.1,a4.2.2.2.2.2.2.2.2.1.1,a4.2.2.2.2.2.2.2.2.1.2,a4.2.2.2.2.2.2.2.2.2.1,a4.2.2.2.2.2.2.2.2.2.2,()))) fun (V0,W0,X0,Y0,Z0,A1,B1,C1,D1,E1,F1,G1,H1,I1,J1,K1,L1,M1,N1,O1,P1,Q1,R1,S1,T1,U1,V1,W1,X1,Y1,Z1,_)=>
   (
    bif V0 then
     some (E1 != M1,())
    else
     some (false,())).bind fun v8=>
   aC (γ:=(Bool×(List aa)×Int×Bys×Int×Int×Bys×Int×Int×Int×Int×Bys×Int×Int×Bys×Int×Int×Int×Int×Int×Int×Int×Int×Bys×Int×Int×Bys×Int×Int×Int×Int×Unit)) (
    bif v8.1 then
     chk (decide (((W0.length)+1)*120<=140737488355328)&&decide ((W0.length)+1<=maxLen)) <|
     some (.inr (V0,W0++[(N1,O1,P1,3,R1,S1,(T1,U1),V1,(W1,X1),M1,Z1)],X0,Y0,Z0,A1,B1,C1,D1,E1,F1,G1,H1,I1,J1,K1,L1,M1,N1,O1,P1,Q1,R1,S1,T1,U1,V1,W1,X1,Y1,Z1,()))
    else
     some (.inr (V0,W0,X0,Y0,Z0,A1,B1,C1,D1,E1,F1,G1,H1,I1,J1,K1,L1,M1,N1,O1,P1,Q1,R1,S1,T1,U1,V1,W1,X1,Y1,Z1,()))) fun (A2,B2,_,_,_,_,_,C2,D2,_,_,_,_,_,_,E2,F2,_,G2,H2,I2,_,J2,K2,L2,M2,N2,_,_,O2,P2,_)=>
   (
    bif A2 then
     Option.bind (om (C2,D2) (E2,F2)) fun r10=>
     some (r10.1,())
    else
     some (false,())).bind fun v11=>
   bif v11.1 then
    chk (decide (((B2.length)+1)*120<=140737488355328)&&decide ((B2.length)+1<=maxLen)) <|
    some (B2++[(G2,H2,I2,4,J2,K2,(L2,M2),N2,(E2,F2),O2,P2)],())
   else
    some (B2,())
def eC:ai:=(0,[],(0,0),[],(0,0),0)
def aM (b:List (Int×ai)) (n:Int):Option ai:=eH (k:=tI) (v:=aJ) b n
def iq (a b:List (Int×ai)):Bool:=a.any fun p=>match aM b p.1 with
 | some y=> !(y.2.1==p.2.2.1)|| !(y.2.2.2.1==p.2.2.2.2.1)
 | none=>false
def dS (a b:List (Int×ai)):List Int:=(a.map (·.1)++(b.map (·.1)).filter fun n=> !(a.any fun p=>p.1==n)).mergeSort fun x y=>decide (x<=y)
def fY:List aa->List aa->List aa
 | out,[]=>out
 | out,d::r=>fY (out++[(d.1,d.2.1,(out.length:Int)+1,d.2.2.2)]) r
def vq (day n:Int):aa:=(day,1,0,0,n,[],(0,0),[],(0,0),0,0)
def iR (a b:List (Int×ai)) (day:Int):List Int->List aa->Option (List aa)
 | [],out=>some out
 | n::r,out=>(iM ((aM a n).getD eC) ((aM b n).getD eC) (aM a n).isSome (aM b n).isSome (vq day n)).bind fun l=>
  iR a b day r (fY out l.1)
def TP (a:List (Int×ai)):Bool:=decide ((a.map (·.1)).Nodup)
def jZ (was is:aj):Option (List aa×Int×Unit):=
 (dM was).bind fun e1=>
 bif e1.1 != 0 then some ([],e1.1,()) else
 (dM is).bind fun e2=>
 bif e2.1 != 0 then some ([],e2.1,()) else
 (gF was).bind fun a=>
 (gF is).bind fun b=>
 bif !(was.1==is.1)||(!(was.2.1==is.2.1)|| !(was.2.2.1==is.2.2.1)) then some ([],12,()) else
 chk ((TP a.1&&TP b.1)&&(mK a.1&&mK b.1)) <|
 bif iq a.1 b.1 then some ([],12,()) else
 bif decide (is.2.2.2.1<was.2.2.2.1) then some ([],8,()) else
 (iR a.1 b.1 is.2.2.2.1 (dS a.1 b.1) []).bind fun out=>
 chk (decide (out.length<=1000000)) <|
 (dL out).bind fun e=>bif e.1 != 0 then some ([],e.1,()) else some (out,0,())
end
end Go.Md
namespace Go.Md
open Go.Dn
abbrev kE:Type:=(List dD)×(List an)×Int×Int×Unit
abbrev nN:Type:=(((List dD)×Unit) ⊕ ((List dD)×Unit))
def nM (x1:kE) (again:kE->Option nN):Option nN:=
 match x1 with
 | (A,B,C,D,_)=>
 bif decide (D<C) then
  (idx B D).bind fun y2=>
  chk (decide (((A.length)+1)*144<=140737488355328)&&decide ((A.length)+1<=maxLen)) <|
  again (A++[y2.1],B,C,w64 (D+1),())
 else
  some (.inr (A,()))
def sZ (a0:ew):Option ((List dD)×Unit):=
 aC (
  iter (X:=kE) (β:=nN) (List.length ([]:List dD)+(a0.2.2.1.length+(Int.natAbs ((a0.2.2.1.length:Int))+(Int.natAbs (0:Int)+2)))) ([],a0.2.2.1,(a0.2.2.1.length:Int),0,()) (nM)) fun v3=>
 some (v3.1,())
end Go.Md
set_option linter.all false
namespace Go.Md
open Go.Dn
noncomputable section
end
end Go.Md
set_option linter.all false
namespace Go.Md
open Go.Dn
noncomputable section
def Gr (a0:aj) (a1:aj):Option (Int×Unit):=
 (idx a0.2.2.2.2.2 (w64 (((a0.2.2.2.2.2.length:Int)) - 1))).bind fun y1=>
 (idx a1.2.2.2.2.2 (w64 (((a1.2.2.2.2.2.length:Int)) - 1))).bind fun y2=>
 some (w64 ((if y2.1>y1.1 then y2.1 else y1.1)+1),())
abbrev wY:Type:=Int×(List ai)×Int×Int×Int×Bys×Int×Int×Bys×Int×Int×Int×Unit
abbrev wX:Type:=((ai×Bool×Unit) ⊕ (Int×Bys×Int×Int×Bys×Int×Int×Int×Unit))
def wW (x1:wY) (again:wY->Option wX):Option wX:=
 match x1 with
 | (A,B,C,D,E,F,G,H,I,J,K,L,_)=>
 bif decide (D<C) then
  (idx B D).bind fun y2=>
  bif y2.1==A then
   some (.inl (y2,true,()))
  else
   again (A,B,C,w64 (D+1),E,F,G,H,I,J,K,L,())
 else
  some (.inr (E,F,G,H,I,J,K,L,()))
def zz (a0:aj) (a1:Int):Option (ai×Bool×Unit):=
 aC (
  iter (X:=wY) (β:=wX) (a1.natAbs+(a0.2.2.2.2.2.length+(Int.natAbs ((a0.2.2.2.2.2.length:Int))+(Int.natAbs (0:Int)+(Int.natAbs (0:Int)+(List.length ([]:Bys)+(Int.natAbs (0:Int)+(Int.natAbs (0:Int)+(List.length ([]:Bys)+(Int.natAbs (0:Int)+(Int.natAbs (0:Int)+(Int.natAbs (0:Int)+2)))))))))))) (a1,a0.2.2.2.2.2,(a0.2.2.2.2.2.length:Int),0,0,[],0,0,[],0,0,0,()) (wW)) fun _=>
 some ((0,[],(0,0),[],(0,0),0),false,())
def AJ (a0:aj) (a1:aj) (a2:Int):Option ((List aa)×Unit):=
 (zz a0 a2).bind fun r1=>
 (zz a1 a2).bind fun r2=>
 (
  bif r1.2.1 then
   some (!r2.2.1,())
  else
   some (false,())).bind fun v3=>
 bif v3.1 then
  some ([(0,0,0,2,a2,[],(0,0),[],(0,0),0,0)],())
 else
  (
   bif r2.2.1 then
    some (!r1.2.1,())
   else
    some (false,())).bind fun v4=>
  bif v4.1 then
   some ([(0,0,0,1,a2,r2.1.2.1,r2.1.2.2.1,r2.1.2.2.2.1,r2.1.2.2.2.2.1,r2.1.2.2.2.2.2,0)],())
  else
   bif r2.2.1 then
    (mV r1.1.2.2.1 r2.1.2.2.1).bind fun r5=>
    aC (γ:=(Int×(List aa)×Int×Bys×Int×Int×Bys×Int×Int×Int×Int×Bys×Int×Int×Bys×Int×Int×Int×Unit)) (
     bif r5.1 != 0 then
      some (.inr (a2,[(0,0,0,2,a2,[],r2.1.2.2.1,[],(0,0),0,0)],r1.1.1,r1.1.2.1,r1.1.2.2.1.1,r1.1.2.2.1.2,r1.1.2.2.2.1,r1.1.2.2.2.2.1.1,r1.1.2.2.2.2.1.2,r1.1.2.2.2.2.2,r2.1.1,r2.1.2.1,r2.1.2.2.1.1,r2.1.2.2.1.2,r2.1.2.2.2.1,r2.1.2.2.2.2.1.1,r2.1.2.2.2.2.1.2,r2.1.2.2.2.2.2,()))
     else
      some (.inr (a2,[],r1.1.1,r1.1.2.1,r1.1.2.2.1.1,r1.1.2.2.1.2,r1.1.2.2.2.1,r1.1.2.2.2.2.1.1,r1.1.2.2.2.2.1.2,r1.1.2.2.2.2.2,r2.1.1,r2.1.2.1,r2.1.2.2.1.1,r2.1.2.2.1.2,r2.1.2.2.2.1,r2.1.2.2.2.2.1.1,r2.1.2.2.2.2.1.2,r2.1.2.2.2.2.2,()))) fun (A,B,C,D,E,F,G,H,I,J,K,L,M,N,O,P,Q,R,_)=>
    aC (γ:=(Int×(List aa)×Int×Bys×Int×Int×Bys×Int×Int×Int×Int×Bys×Int×Int×Bys×Int×Int×Int×Unit)) (
     bif J != R then
      chk (decide (((B.length)+1)*120<=140737488355328)&&decide ((B.length)+1<=maxLen)) <|
      some (.inr (A,B++[(0,0,0,3,A,[],(0,0),[],(0,0),R,0)],C,D,E,F,G,H,I,J,K,L,M,N,O,P,Q,R,()))
     else
      some (.inr (A,B,C,D,E,F,G,H,I,J,K,L,M,N,O,P,Q,R,()))) fun (S,T,_,_,_,_,_,U,V,_,_,_,_,_,_,W,X,_,_)=>
    (mV (U,V) (W,X)).bind fun r8=>
    bif r8.1 != 0 then
     chk (decide (((T.length)+1)*120<=140737488355328)&&decide ((T.length)+1<=maxLen)) <|
     some (T++[(0,0,0,4,S,[],(0,0),[],(W,X),0,0)],())
    else
     some (T,())
   else
    some ([],())
abbrev oC:Type:=(List ai)×Int×Int×(List ai)×Int×Int×Bys×Bys×Bys×Int×Int×(List ai)×Bys×Bys×Bys×Int×Int×(List ai)×Int×Bys×Int×Int×Bys×Int×Int×Int×Unit
abbrev oA:Type:=((((List aa)×Int×Unit) ⊕ (Bys×Bys×Bys×Int×Int×(List ai)×Bys×Bys×Bys×Int×Int×(List ai)×Unit)) ⊕ ((List ai)×Int×Int×Bys×Bys×Bys×Int×Int×(List ai)×Bys×Bys×Bys×Int×Int×(List ai)×Unit))
def oy (x1:oC) (again:oC->Option oA):Option oA:=
 match x1 with
 | (A,B,C,D,E,F,G,H,I,J,K,L,M,N,O,P,Q,R,S,T,U,V,W,X,Y,Z,_)=>
 bif decide (F<E) then
  (idx D F).bind fun y2=>
  (
   bif S==y2.1 then
    bif !(T==y2.2.1) then
     some (true,())
    else
     some (!(W==y2.2.2.2.1),())
   else
    some (false,())).bind fun v3=>
  bif v3.1 then
   FN <|
    some (.inl ([],12,()))
  else
   again (A,B,C,D,E,w64 (F+1),G,H,I,J,K,L,M,N,O,P,Q,R,S,T,U,V,W,X,Y,Z,())
 else
  some (.inr (A,B,C,G,H,I,J,K,L,M,N,O,P,Q,R,()))
abbrev oB:Type:=(List ai)×Int×Int×Bys×Bys×Bys×Int×Int×(List ai)×Bys×Bys×Bys×Int×Int×(List ai)×Unit
abbrev oz:Type:=(((List aa)×Int×Unit) ⊕ (Bys×Bys×Bys×Int×Int×(List ai)×Bys×Bys×Bys×Int×Int×(List ai)×Unit))
def ox (x1:oB) (again:oB->Option oz):Option oz:=
 match x1 with
 | (A,B,C,D,E,F,G,H,I,J,K,L,M,N,O,_)=>
 bif decide (C<B) then
  (idx A C).bind fun y2=>
  aC (
   iter (X:=oC) (β:=oA) (A.length+(B.natAbs+(C.natAbs+(O.length+(Int.natAbs ((O.length:Int))+(Int.natAbs (0:Int)+(D.length+(E.length+(F.length+(G.natAbs+(H.natAbs+(I.length+(J.length+(K.length+(L.length+(M.natAbs+(N.natAbs+(O.length+(y2.1.natAbs+(y2.2.1.length+(y2.2.2.1.1.natAbs+(y2.2.2.1.2.natAbs+(y2.2.2.2.1.length+(y2.2.2.2.2.1.1.natAbs+(y2.2.2.2.2.1.2.natAbs+(y2.2.2.2.2.2.natAbs+2)))))))))))))))))))))))))) (A,B,C,O,(O.length:Int),0,D,E,F,G,H,I,J,K,L,M,N,O,y2.1,y2.2.1,y2.2.2.1.1,y2.2.2.1.2,y2.2.2.2.1,y2.2.2.2.2.1.1,y2.2.2.2.2.1.2,y2.2.2.2.2.2,()) (oy)) fun (P,Q,R,S,T,U,V,W,Y,Z,A0,B0,C0,D0,E0,_)=>
  again (P,Q,w64 (R+1),S,T,U,V,W,Y,Z,A0,B0,C0,D0,E0,())
 else
  some (.inr (D,E,F,G,H,I,J,K,L,M,N,O,()))
abbrev oD:Type:=(List aa)×Int×Int×Bys×Bys×Bys×Int×Int×(List ai)×Bys×Bys×Bys×Int×Int×(List ai)×Unit
abbrev sX:Type:=(((List aa)×Int×Unit) ⊕ ((List aa)×Bys×Bys×Bys×Int×Int×(List ai)×Unit))
def sV (x1:oD) (again:oD->Option sX):Option sX:=
 match x1 with
 | (A,B,C,D,E,F,G,H,I,J,K,L,M,N,O,_)=>
 bif decide (C<B) then
  (AJ (D,E,F,G,H,I) (J,K,L,M,N,O) C).bind fun r2=>
  chk (decide (((A.length)+(r2.1.length))*120<=140737488355328)&&decide ((A.length)+(r2.1.length)<=maxLen)) <|
  again (A++r2.1,B,w64 (C+1),D,E,F,G,H,I,J,K,L,M,N,O,())
 else
  some (.inr (A,J,K,L,M,N,O,()))
abbrev oE:Type:=(List aa)×Int×Int×Bys×Bys×Bys×Int×Int×(List ai)×Unit
abbrev sY:Type:=(((List aa)×Int×Unit) ⊕ ((List aa)×Unit))
def sW (x1:oE) (again:oE->Option sY):Option sY:=
 match x1 with
 | (A,B,C,D,E,F,G,H,I,_)=>
 bif decide (C<B) then
  chk (decide (0<=C)&&decide (C<(A.length:Int))) <|
  (A[C.toNat]?).bind fun y2=>
  chk (decide (0<=C)&&decide (C<(List.length (List.set A C.toNat (G,y2.2)):Int))) <|
  ((List.set A C.toNat (G,y2.2))[C.toNat]?).bind fun y3=>
  chk (decide (0<=C)&&decide (C<(List.length (List.set (List.set A C.toNat (G,y2.2)) C.toNat (y3.1,1,y3.2.2)):Int))) <|
  ((List.set (List.set A C.toNat (G,y2.2)) C.toNat (y3.1,1,y3.2.2))[C.toNat]?).bind fun y4=>
  again (List.set (List.set (List.set A C.toNat (G,y2.2)) C.toNat (y3.1,1,y3.2.2)) C.toNat (y4.1,y4.2.1,w64 (C+1),y4.2.2.2),B,w64 (C+1),D,E,F,G,H,I,())
 else
  some (.inr (A,()))
def AH (a0:aj) (a1:aj):Option ((List aa)×Int×Unit):=
 (mj a0).bind fun r1=>
 bif r1.1 != 0 then
  some ([],r1.1,())
 else
  (mj a1).bind fun r2=>
  bif r2.1 != 0 then
   some ([],r2.1,())
  else
   bif !(a0.1==a1.1) then
    some ([],12,())
   else
    bif !(a0.2.1==a1.2.1) then
     some ([],12,())
    else
     bif !(a0.2.2.1==a1.2.2.1) then
      some ([],12,())
     else
      aC (
       iter (X:=oB) (β:=oz) (a0.2.2.2.2.2.length+(Int.natAbs ((a0.2.2.2.2.2.length:Int))+(Int.natAbs (0:Int)+(a0.1.length+(a0.2.1.length+(a0.2.2.1.length+(a0.2.2.2.1.natAbs+(a0.2.2.2.2.1.natAbs+(a0.2.2.2.2.2.length+(a1.1.length+(a1.2.1.length+(a1.2.2.1.length+(a1.2.2.2.1.natAbs+(a1.2.2.2.2.1.natAbs+(a1.2.2.2.2.2.length+2))))))))))))))) (a0.2.2.2.2.2,(a0.2.2.2.2.2.length:Int),0,a0.1,a0.2.1,a0.2.2.1,a0.2.2.2.1,a0.2.2.2.2.1,a0.2.2.2.2.2,a1.1,a1.2.1,a1.2.2.1,a1.2.2.2.1,a1.2.2.2.2.1,a1.2.2.2.2.2,()) (ox)) fun (A,B,C,D,E,F,G,H,I,J,K,L,_)=>
      bif decide (J<D) then
       some ([],8,())
      else
       (Gr (A,B,C,D,E,F) (G,H,I,J,K,L)).bind fun r10=>
       aC (
        iter (X:=oD) (β:=sX) (List.length ([]:List aa)+(r10.1.natAbs+(Int.natAbs (0:Int)+(A.length+(B.length+(C.length+(D.natAbs+(E.natAbs+(F.length+(G.length+(H.length+(I.length+(J.natAbs+(K.natAbs+(L.length+2))))))))))))))) ([],r10.1,0,A,B,C,D,E,F,G,H,I,J,K,L,()) (sV)) fun (M,N,O,P,Q,R,S,_)=>
       aC (
        iter (X:=oE) (β:=sY) (M.length+(Int.natAbs ((M.length:Int))+(Int.natAbs (0:Int)+(N.length+(O.length+(P.length+(Q.natAbs+(R.natAbs+(S.length+2))))))))) (M,(M.length:Int),0,N,O,P,Q,R,S,()) (sW)) fun v18=>
       (pV v18.1).bind fun r19=>
       bif r19.1 != 0 then
        some ([],r19.1,())
       else
        some (v18.1,0,())
abbrev rK:Type:=Int×Int×Bys×Bys×Bys×Int×Int×(List ai)×Bys×Bys×Bys×Int×Int×(List ai)×(List dD)×Unit
abbrev wO:Type:=((aj×Int×Unit) ⊕ (Bys×Bys×Bys×Int×Int×(List ai)×Bys×Bys×Bys×Int×Int×(List ai)×Unit))
def wN (x1:rK) (again:rK->Option wO):Option wO:=
 match x1 with
 | (A,B,C,D,E,F,G,H,I,J,K,L,M,N,O,_)=>
 bif decide (B<A) then
  chk (decide (0<=B)&&decide (B<(O.length:Int))) <|
  (O[B.toNat]?).bind fun y2=>
  bif decide (y2.2.2.2.1.1>0) then
   chk (decide (((N.length)+1)*80<=140737488355328)&&decide ((N.length)+1<=maxLen)) <|
   again (A,w64 (B+1),C,D,E,F,G,H,I,J,K,L,M,N++[(y2.1,y2.2.1,y2.2.2.2.1,y2.2.2.1,y2.2.2.2.2.1,y2.2.2.2.2.2.1)],O,())
  else
   again (A,w64 (B+1),C,D,E,F,G,H,I,J,K,L,M,N,O,())
 else
  some (.inr (C,D,E,F,G,H,I,J,K,L,M,N,()))
def CN (a0:aj) (a1:List aa):Option (aj×Int×Unit):=
 (Ja a0 a1).bind fun r1=>
 bif r1.1 != 0 then
  some (([],[],[],0,0,[]),r1.1,())
 else
  (Jd a0 a1 3652059).bind fun r2=>
  (sZ (r2.1.1,r2.1.2.1,r2.1.2.2.1,r2.1.2.2.2.1)).bind fun r3=>
  aC (
   iter (X:=rK) (β:=wO) (Int.natAbs ((r3.1.length:Int))+(Int.natAbs (0:Int)+(List.length ([]:Bys)+(List.length ([]:Bys)+(List.length ([]:Bys)+(Int.natAbs (0:Int)+(Int.natAbs (0:Int)+(List.length ([]:List ai)+(a0.1.length+(a0.2.1.length+(a0.2.2.1.length+(a0.2.2.2.1.natAbs+(a0.2.2.2.2.1.natAbs+(List.length ([]:List ai)+(r3.1.length+2))))))))))))))) ((r3.1.length:Int),0,[],[],[],0,0,[],a0.1,a0.2.1,a0.2.2.1,a0.2.2.2.1,a0.2.2.2.2.1,[],r3.1,()) (wN)) fun (_,_,_,_,_,_,A,B,C,D,E,F,_)=>
  bif ((F.length:Int))==0 then
   some (([],[],[],0,0,[]),9,())
  else
   some ((A,B,C,D,E,F),0,())
def AI (a0:aj) (a1:List aa) (a2:Int):Option ((List ay)×Int×Unit):=
 (Ja a0 a1).bind fun r1=>
 bif r1.1 != 0 then
  some ([],r1.1,())
 else
  (iN a2 1 99999).bind fun r2=>
  bif !r2.1 then
   some ([],1,())
  else
   (Jd a0 a1 3652059).bind fun r3=>
   (kZ (r3.1.1,r3.1.2.1,r3.1.2.2.1,r3.1.2.2.2.1) a2).bind fun r4=>
   bif decide (r4.1>=0) then
    chk (decide (0<=r4.1)&&decide (r4.1<(r3.1.2.2.1.length:Int))) <|
    (r3.1.2.2.1[r4.1.toNat]?).bind fun y5=>
    some (y5.2.2.2,0,())
   else
    some ([],0,())
abbrev fA:Type:=(List ay)×(List ay)×Int×Int×Unit
abbrev ia:Type:=((Bool×Unit) ⊕ Unit)
def gZ (x1:fA) (again:fA->Option ia):Option ia:=
 match x1 with
 | (A,B,C,D,_)=>
 bif decide (D<C) then
  (idx A D).bind fun y2=>
  (idx B D).bind fun y3=>
  bif !((y2.1==y3.1)&&(((y2.2.1==y3.2.1)&&((y2.2.2.1==y3.2.2.1)&&((y2.2.2.2.1==y3.2.2.2.1)&&(((y2.2.2.2.2.1.1==y3.2.2.2.2.1.1)&&((y2.2.2.2.2.1.2==y3.2.2.2.2.1.2)&&true))&&(((y2.2.2.2.2.2.1.1==y3.2.2.2.2.2.1.1)&&((y2.2.2.2.2.2.1.2==y3.2.2.2.2.2.1.2)&&true))&&((y2.2.2.2.2.2.2.1==y3.2.2.2.2.2.2.1)&&(((y2.2.2.2.2.2.2.2.1.1==y3.2.2.2.2.2.2.2.1.1)&&((y2.2.2.2.2.2.2.2.1.2==y3.2.2.2.2.2.2.2.1.2)&&true))&&(((y2.2.2.2.2.2.2.2.2.1.1==y3.2.2.2.2.2.2.2.2.1.1)&&((y2.2.2.2.2.2.2.2.2.1.2==y3.2.2.2.2.2.2.2.2.1.2)&&true))&&(((y2.2.2.2.2.2.2.2.2.2.1.1==y3.2.2.2.2.2.2.2.2.2.1.1)&&((y2.2.2.2.2.2.2.2.2.2.1.2==y3.2.2.2.2.2.2.2.2.2.1.2)&&true))&&(((y2.2.2.2.2.2.2.2.2.2.2.1==y3.2.2.2.2.2.2.2.2.2.2.1)&&((y2.2.2.2.2.2.2.2.2.2.2.2==y3.2.2.2.2.2.2.2.2.2.2.2)&&true))&&true))))))))))&&true)) then
   some (.inl (false,()))
  else
   again (A,B,C,w64 (D+1),())
 else
  some (.inr ())
def jk (a0:List ay) (a1:List ay):Option (Bool×Unit):=
 bif ((a0.length:Int)) != ((a1.length:Int)) then
  some (false,())
 else
  aC (
   iter (X:=fA) (β:=ia) (a0.length+(a1.length+(Int.natAbs ((a0.length:Int))+(Int.natAbs (0:Int)+2)))) (a0,a1,(a0.length:Int),0,()) (gZ)) fun _=>
  some (true,())
def iu (a0:aj) (a1:aj) (a2:List aa) (a3:Int):Option (Bool×Unit):=
 (jZ a0 a1).bind fun r1=>
 (AH a0 a1).bind fun r2=>
 bif r1.2.1 != r2.2.1 then
  some (false,())
 else
  (jP r1.1 r2.1).bind fun r3=>
  bif !r3.1 then
   some (false,())
  else
   (wB a0 a2).bind fun r4=>
   (CN a0 a2).bind fun r5=>
   bif r4.2.1 != r5.2.1 then
    some (false,())
   else
    (wP r4.1 r5.1).bind fun r6=>
    bif !r6.1 then
     some (false,())
    else
     (uz a0 a2 a3).bind fun r7=>
     (AI a0 a2 a3).bind fun r8=>
     (
      bif r7.2.1==r8.2.1 then
       Option.bind (jk r7.1 r8.1) fun r9=>
       bif r9.1 then
        Option.bind (Me) fun r10=>
        some (r10.1,())
       else
        some (false,())
      else
       some (false,())).bind fun v11=>
     some (v11.1,())
end
end Go.Md
end
