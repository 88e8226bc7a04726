/-
  The plain models of the functions that the law reaches, second part. No condition.
-/
import Derived.Test.YtfghdjdpccoleabGreatDoorYm
import Derived.Lib.Bytealg
import Derived.Lib.Repeat
import Derived.Lib.ItoaNum
namespace Go.Md
open Go.Dn
def strings_Compare (a b:Bys):Option (Int×Unit):=some (Lib.compareBytes a b,())
abbrev E2:Type:=Bys×ax
abbrev yQ:Type:=Bool×ax×Bys
abbrev II:Type:=Int×Int×Bys×ax×Bys×ax×Int×(List yQ)×Bys
abbrev U6:Type:=Bys×Bys×Int×Int×Int×Bool×(List E2)×(List II)×(List yQ)
abbrev CF:Type:=Int×Int×Int×Unit
abbrev CE:Type:=((Int×Unit) ⊕ (Int×Unit))
def TP (x1:CF) (again:CF->Option CE):Option CE:=
 bif decide (x1.2.2.1<x1.2.1) then
  again (w64 (x1.1*10),x1.2.1,w64 (x1.2.2.1+1),())
 else
  some (.inr (x1.1,()))
def It (a0:Int):Option (Int×Unit):=
 aJ (
  iter (X:=CF) (β:=CE) (Int.natAbs (1:Int)+(a0.natAbs+(Int.natAbs (0:Int)+2))) (1,a0,0,()) (TP)) fun v2=>
 some (v2.1,())
def Bx (a0:ax) (a1:Int) (a2:Int):Option (Bool×Unit):=
 bif decide (a0.2<=a1) then
  bif decide (a0.1>=0) then
   (It a0.2).bind fun r1=>
   some (decide (a0.1<=(w64 (a2*r1.1))),())
  else
   some (false,())
 else
  some (false,())
abbrev mK:Type:=Int×Int×Int×(List Int)×Int×Int×(List Int)×Int×Int×Bool×(List Int)×Bool×(List Int)×Bool×(List Int)×(List Int)×Unit
abbrev xK:Type:=(((aB×Unit) ⊕ (Bool×(List Int)×Bool×(List Int)×Bool×(List Int)×(List Int)×Unit)) ⊕ (Int×Int×(List Int)×Int×Int×Bool×(List Int)×Bool×(List Int)×Bool×(List Int)×(List Int)×Unit))
def qV (x1:mK) (again:mK->Option xK):Option xK:=
 match x1 with
 | (A,B,C,D,E,F,G,H,I,J,K,L,M,N,O,P,_)=>
 bif decide (I<H) then
  (idx G I).bind fun y2=>
  chk (decide (0<=(w64 (A+I)))&&decide ((w64 (A+I))<(P.length:Int))) <|
  (P[(w64 (A+I)).toNat]?).bind fun y3=>
  let n4:Int:=bS ((bS y3)+(bS ((bS B)*(bS y2))))
  chk (decide (0<=(w64 (A+I)))&&decide ((w64 (A+I))<(P.length:Int))) <|
  (P[(w64 (A+I)).toNat]?).bind fun _=>
  again (A,B,Int.fdiv (bS (C+n4)) (2 ^ 32),D,E,F,G,H,w64 (I+1),J,K,L,M,N,O,List.set P (w64 (A+I)).toNat (nc (bS (C+n4))),())
 else
  some (.inr (A,C,D,E,F,J,K,L,M,N,O,P,()))
abbrev mJ:Type:=(List Int)×Int×Int×Bool×(List Int)×Bool×(List Int)×Bool×(List Int)×(List Int)×Unit
abbrev xJ:Type:=((aB×Unit) ⊕ (Bool×(List Int)×Bool×(List Int)×Bool×(List Int)×(List Int)×Unit))
def qU (x1:mJ) (again:mJ->Option xJ):Option xJ:=
 match x1 with
 | (A,B,C,D,E,F,G,H,I,J,_)=>
 bif decide (C<B) then
  (idx A C).bind fun y2=>
  aJ (
   iter (X:=mK) (β:=xK) (C.natAbs+(y2.natAbs+(Int.natAbs (0:Int)+(A.length+(B.natAbs+(C.natAbs+(G.length+(Int.natAbs ((G.length:Int))+(Int.natAbs (0:Int)+(E.length+(G.length+(I.length+(J.length+2))))))))))))) (C,y2,0,A,B,C,G,(G.length:Int),0,D,E,F,G,H,I,J,()) (qV)) fun (K,L,M,N,O,P,Q,R,S,T,U,V,_)=>
  chk (decide (0<=(w64 (K+((S.length:Int)))))&&decide ((w64 (K+((S.length:Int))))<(V.length:Int))) <|
  (V[(w64 (K+((S.length:Int)))).toNat]?).bind fun _=>
  again (M,N,w64 (O+1),P,Q,R,S,T,U,List.set V (w64 (K+((S.length:Int)))).toNat (nc L),())
 else
  some (.inr (D,E,F,G,H,I,J,()))
def qT (a0:aB) (a1:aB):Option (aB×Unit):=
 chk (decide (0<=(w64 (((a0.2.length:Int))+((a1.2.length:Int)))))&&decide ((w64 (((a0.2.length:Int))+((a1.2.length:Int))))<=(w64 (((a0.2.length:Int))+((a1.2.length:Int)))))&&decide ((4:Int)*(w64 (((a0.2.length:Int))+((a1.2.length:Int))))<=281474976710656)&&decide ((w64 (((a0.2.length:Int))+((a1.2.length:Int))))<=9223372036854775807)) <|
 aJ (
  iter (X:=mJ) (β:=xJ) (a0.2.length+(Int.natAbs ((a0.2.length:Int))+(Int.natAbs (0:Int)+(a0.2.length+(a1.2.length+(List.length ([]:List Int)+(List.length ((List.replicate (Int.toNat (w64 (((a0.2.length:Int))+((a1.2.length:Int))))) 0):List Int)+2))))))) (a0.2,(a0.2.length:Int),0,a0.1,a0.2,a1.1,a1.2,false,[],List.replicate (Int.toNat (w64 (((a0.2.length:Int))+((a1.2.length:Int))))) 0,()) (qU)) fun v10=>
 (iG (!(v10.1==v10.2.2.1)) v10.2.2.2.2.2.2.1).bind fun r11=>
 some (r11.1,())
abbrev sH:Type:=Int×Int×Bool×(List Int)×Bool×(List Int)×Unit
abbrev C5:Type:=((aB×Unit) ⊕ (Bool×(List Int)×Bool×(List Int)×Unit))
def yz (x1:sH) (again:sH->Option C5):Option C5:=
 match x1 with
 | (A,B,C,D,E,F,_)=>
 bif decide (B<A) then
  (rz 10).bind fun r2=>
  (qT (E,F) r2.1).bind fun r3=>
  again (A,w64 (B+1),C,D,r3.1.1,r3.1.2,())
 else
  some (.inr (C,D,E,F,()))
def DB (a0:Int):Option (aB×Unit):=
 (rz 1).bind fun r1=>
 aJ (
  iter (X:=sH) (β:=C5) (a0.natAbs+(Int.natAbs (0:Int)+(List.length ([]:List Int)+(r1.1.2.length+2)))) (a0,0,false,[],r1.1.1,r1.1.2,()) (yz)) fun v5=>
 some ((v5.2.2.1,v5.2.2.2.1),())
abbrev C7:Type:=(List Int)×(List Int)×Int×(List Int)×Int×Int×Unit
abbrev C6:Type:=(((List Int)×Unit) ⊕ ((List Int)×Int×Unit))
def Ug (x1:C7) (again:C7->Option C6):Option C6:=
 match x1 with
 | (A,B,C,D,E,F,_)=>
 bif decide (F<E) then
  (idx D F).bind fun y2=>
  aJ (γ:=((List Int)×(List Int)×Int×(List Int)×Int×Int×Unit)) (
   bif decide (F<((A.length:Int))) then
    (idx A F).bind fun y3=>
    let n4:Int:=bS ((bS (C+(bS y2)))+(bS y3))
    some (.inr (A,B,n4,D,E,F,()))
   else
    some (.inr (A,B,bS (C+(bS y2)),D,E,F,()))) fun (G,H,I,J,K,L,_)=>
  chk (decide (((H.length)+1)*4<=140737488355328)&&decide ((H.length)+1<=maxLen)) <|
  again (G,H++[(nc I)],Int.fdiv I (2 ^ 32),J,K,w64 (L+1),())
 else
  some (.inr (B,C,()))
def IG (a0:List Int) (a1:List Int):Option ((List Int)×Unit):=
 aJ (γ:=((List Int)×(List Int)×Unit)) (
  bif decide (((a0.length:Int))<((a1.length:Int))) then
   some (.inr (a1,a0,()))
  else
   some (.inr (a0,a1,()))) fun (A,B,_)=>
 chk (decide (0<=(0:Int))&&decide ((0:Int)<=(w64 (((A.length:Int))+1)))&&decide ((4:Int)*(w64 (((A.length:Int))+1))<=281474976710656)&&decide ((w64 (((A.length:Int))+1))<=9223372036854775807)) <|
 aJ (
  iter (X:=C7) (β:=C6) (B.length+(List.length ([]:List Int)+(Int.natAbs (0:Int)+(A.length+(Int.natAbs ((A.length:Int))+(Int.natAbs (0:Int)+2)))))) (B,[],0,A,(A.length:Int),0,()) (Ug)) fun (C,D,_)=>
 chk (decide (((C.length)+1)*4<=140737488355328)&&decide ((C.length)+1<=maxLen)) <|
 some (C++[(nc D)],())
def jG (a0:aB) (a1:aB):Option (aB×Unit):=
 bif a0.1==a1.1 then
  (IG a0.2 a1.2).bind fun r1=>
  (iG a0.1 r1.1).bind fun r2=>
  some (r2.1,())
 else
  (u9 a0.2 a1.2).bind fun r3=>
  bif decide (r3.1>=0) then
   (yA a0.2 a1.2).bind fun r4=>
   (iG a0.1 r4.1).bind fun r5=>
   some (r5.1,())
  else
   (yA a1.2 a0.2).bind fun r6=>
   (iG a1.1 r6.1).bind fun r7=>
   some (r7.1,())
def nV (a0:aB) (a1:aB):Option (aB×Unit):=
 (qS a1).bind fun r1=>
 (jG a0 r1.1).bind fun r2=>
 some (r2.1,())
def rH (a0:aB) (a1:aB):Option (Int×Unit):=
 (nV a0 a1).bind fun r1=>
 (jH r1.1).bind fun r2=>
 some (r2.1,())
def jk (a0:ax) (a1:Int):Option (aB×Unit):=
 (rz a0.1).bind fun r1=>
 (DB (w64 (a1 - a0.2))).bind fun r2=>
 (qT r1.1 r2.1).bind fun r3=>
 some (r3.1,())
abbrev BS:Type:=Int×Int×Bool×(List Int)×Bool×(List Int)×Bool×(List Int)×Unit
abbrev KM:Type:=((ai×Int×Unit) ⊕ (Int×Bool×(List Int)×Bool×(List Int)×Unit))
def Fl (x1:BS) (again:BS->Option KM):Option KM:=
 match x1 with
 | (A,B,C,D,E,F,G,H,_)=>
 bif decide (B>=0) then
  (idx D B).bind fun y2=>
  let n3:Int:=w64 (Int.tdiv (w64 ((w64 (A*1000000))+y2)) 2)
  let n4:Int:=Int.tmod (w64 ((w64 (A*1000000))+y2)) 2
  chk (decide (0<=B)&&decide (B<(H.length:Int))) <|
  (H[B.toNat]?).bind fun _=>
  again (n4,w64 (B - 1),C,D,E,F,G,List.set H B.toNat n3,())
 else
  some (.inr (A,E,F,G,H,()))
def Oj (a0:ai):Option (ai×Int×Unit):=
 chk (decide (0<=((a0.2.length:Int)))&&decide (((a0.2.length:Int))<=((a0.2.length:Int)))&&decide ((8:Int)*((a0.2.length:Int))<=281474976710656)&&decide (((a0.2.length:Int))<=9223372036854775807)) <|
 aJ (
  iter (X:=BS) (β:=KM) (Int.natAbs (0:Int)+(Int.natAbs (w64 (((a0.2.length:Int)) - 1))+(a0.2.length+(List.length ([]:List Int)+(List.length ((List.replicate (Int.toNat ((a0.2.length:Int))) 0):List Int)+2))))) (0,w64 (((a0.2.length:Int)) - 1),a0.1,a0.2,false,[],false,List.replicate (Int.toNat ((a0.2.length:Int))) 0,()) (Fl)) fun (A,_,_,B,C,_)=>
 (nK (B,C)).bind fun r7=>
 some (r7.1,A,())
abbrev xg:Type:=(List Int)×Bool×(List Int)×Bool×(List Int)×Bool×(List Int)×Bool×(List Int)×Unit
abbrev Gp:Type:=((ai×ai×Unit) ⊕ ((List Int)×Bool×(List Int)×Bool×(List Int)×Bool×(List Int)×Unit))
def mD (x1:xg) (again:xg->Option Gp):Option Gp:=
 match x1 with
 | (A,B,C,D,E,F,G,H,I,_)=>
 (CO (H,I)).bind fun r2=>
 bif decide (r2.1>0) then
  (Oj (H,I)).bind fun r3=>
  chk (decide (((A.length)+1)*8<=140737488355328)&&decide ((A.length)+1<=maxLen)) <|
  again (A++[r3.2.1],B,C,D,E,F,G,r3.1.1,r3.1.2,())
 else
  some (.inr (A,B,C,D,E,F,G,()))
abbrev uV:Type:=(List Int)×Int×Bool×(List Int)×Bool×(List Int)×Bool×(List Int)×Bool×(List Int)×Bool×(List Int)×Bool×(List Int)×Unit
abbrev EA:Type:=((ai×ai×Unit) ⊕ (Bool×(List Int)×Bool×(List Int)×Bool×(List Int)×Bool×(List Int)×Unit))
def zO (x1:uV) (again:uV->Option EA):Option EA:=
 match x1 with
 | (A,B,C,D,E,F,G,H,I,J,K,L,M,N,_)=>
 bif decide (B>=0) then
  (qP (I,J) (M,N)).bind fun r2=>
  (qP (K,L) (M,N)).bind fun r3=>
  chk (decide (0<=B)&&decide (B<(A.length:Int))) <|
  (A[B.toNat]?).bind fun y4=>
  (BN y4).bind fun r5=>
  (ym r3.1 r5.1).bind fun r6=>
  (Gn r6.1 (C,D)).bind fun r7=>
  bif decide (r7.1>=0) then
   (BN 1).bind fun r8=>
   (ym r2.1 r8.1).bind fun r9=>
   (An (C,D)).bind fun r10=>
   (ym r6.1 r10.1).bind fun r11=>
   again (A,w64 (B - 1),C,D,E,F,G,H,r9.1.1,r9.1.2,r11.1.1,r11.1.2,M,N,())
  else
   again (A,w64 (B - 1),C,D,E,F,G,H,r2.1.1,r2.1.2,r6.1.1,r6.1.2,M,N,())
 else
  some (.inr (E,F,G,H,I,J,K,L,()))
def HG (a0:ai) (a1:ai):Option (ai×ai×Unit):=
 aJ (
  iter (X:=xg) (β:=Gp) ((20*List.length (([],a1.1,a1.2,false,[],false,[],a0.1,a0.2,()):xg).2.2.2.2.2.2.2.2.1+2)) ([],a1.1,a1.2,false,[],false,[],a0.1,a0.2,()) (mD)) fun (A,B,C,D,E,F,G,_)=>
 (BN 2).bind fun r5=>
 aJ (
  iter (X:=uV) (β:=EA) (A.length+(Int.natAbs (w64 (((A.length:Int)) - 1))+(C.length+(E.length+(G.length+(List.length ([]:List Int)+(List.length ([]:List Int)+(r5.1.2.length+2)))))))) (A,w64 (((A.length:Int)) - 1),B,C,D,E,F,G,false,[],false,[],r5.1.1,r5.1.2,()) (zO)) fun (_,_,_,_,H,I,J,K,_)=>
 some ((H,I),(J,K),())
abbrev zh:Type:=Int×Int×Bool×(List Int)×Unit
abbrev Ix:Type:=((Int×Bool×Unit) ⊕ (Int×Bool×(List Int)×Unit))
def Dw (x1:zh) (again:zh->Option Ix):Option Ix:=
 match x1 with
 | (A,B,C,D,_)=>
 bif decide (B>=0) then
  (idx D B).bind fun y2=>
  again (w64 ((w64 (A*1000000))+y2),w64 (B - 1),C,D,())
 else
  some (.inr (A,C,D,()))
def KL (a0:ai) (a1:Int):Option (Int×Bool×Unit):=
 (BN a1).bind fun r1=>
 (CR a0.2 r1.1.2).bind fun r2=>
 bif decide (r2.1>0) then
  some (0,false,())
 else
  aJ (
   iter (X:=zh) (β:=Ix) (Int.natAbs (0:Int)+(Int.natAbs (w64 (((a0.2.length:Int)) - 1))+(a0.2.length+2))) (0,w64 (((a0.2.length:Int)) - 1),a0.1,a0.2,()) (Dw)) fun v5=>
  bif v5.2.1 then
   some (w64 (0 - v5.1),true,())
  else
   some (v5.1,true,())
end Go.Md
namespace Go.Md
open Go.Dn
def acg (n:Nat):Bys:=if n<10 then [UInt8.ofNat (48+n)] else [UInt8.ofNat (48+n / 10),UInt8.ofNat (48+n % 10)]
def strconv_Itoa (n:Int):Option (Bys×Unit):=bif decide (0<=n)&&decide (n<100) then some (acg n.toNat,()) else bif decide (-9223372036854775808<=n)&&decide (n<=9223372036854775807) then some (Lib.itoa n,()) else none
def strings_Repeat (s:Bys) (n:Int):Option (Bys×Unit):=bif decide (0<=n)&&(decide (n<=9223372036854775807)&&decide (s.length*n.toNat<=140737488355328)) then some (Lib.repeatL s n.toNat,()) else none
def EK (_a:Bys):Option (Int×Unit):=none
def El (_a:Bys):Option (Bool×Unit):=none
def KZ (_a:Bys):Option (Bool×Unit):=none
def L4 (_a:Bys):Option (Bool×Unit):=none
def K1 (_a _b:Int):Option (Bys×Unit):=none
def Gt (_a:Bys) (_b:Bool):Option (Bool×Unit):=none
def No (_a:Bys) (_b:Int):Option (Int×Unit):=none
def Pn (_a:Bys):Option (Int×Unit):=none
def UR (_a:Bys):Option (Bys×Unit):=none
abbrev ah:Ty:=(.st (.pair .str (.pair .str (.pair .str bN))))
abbrev aa:Type:=Bys×Bys×Bys×ax
abbrev bh:Ty:=(.st (.pair .str (.pair .str (.pair bN (.slice ah)))))
abbrev ak:Type:=Bys×Bys×ax×(List aa)
abbrev bY:Ty:=(.st (.pair .str (.pair .str (.pair tI (.slice bh)))))
abbrev aG:Type:=Bys×Bys×Int×(List ak)
abbrev JT:Type:=Int×ax×Int
abbrev yR:Type:=Int×Bys×Bys×ax×ax×Int×ax×ax×ax×ax
abbrev JS:Type:=Bys×Bys×ax
abbrev aU:Ty:=(.st (.pair .str .str))
abbrev bz:Type:=Bys×Bys
def zy (a0:Int):Option (Bool×Unit):=
 (nP a0 1 5).bind fun r1=>
 some (!r1.1,())
def Cl (a0:Int):Option ((List Int)×Unit):=
 bif a0==1 then
  some ([8,12,13,14],())
 else
  bif a0==2 then
   some ([13],())
  else
   some ([18],())
abbrev lH:Type:=(List Int)×Int×Int×Int×Unit
abbrev vH:Type:=((Int×Unit) ⊕ Unit)
def pe (x1:lH) (again:lH->Option vH):Option vH:=
 match x1 with
 | (A,B,C,D,_)=>
 bif decide (D<C) then
  (idx A D).bind fun y2=>
  bif B==y2 then
   some (.inl (D,()))
  else
   again (A,B,C,w64 (D+1),())
 else
  some (.inr ())
def Ap (a0:List Int) (a1:Int):Option (Int×Unit):=
 aJ (
  iter (X:=lH) (β:=vH) (a0.length+(a1.natAbs+(Int.natAbs ((a0.length:Int))+(Int.natAbs (0:Int)+2)))) (a0,a1,(a0.length:Int),0,()) (pe)) fun _=>
 some ((-1),())
def lG (a0:List Int) (a1:Int):Option (Bool×Unit):=
 (Ap a0 a1).bind fun r1=>
 some (decide (r1.1>=0),())
abbrev rR:Type:=Bys×Int×Int×Int×Int×Unit
abbrev CB:Type:=((Bool×Unit) ⊕ Unit)
def xY (x1:rR) (again:rR->Option CB):Option CB:=
 match x1 with
 | (A,B,C,D,E,_)=>
 bif decide (E<D) then
  (sj A E).bind fun c2=>
  bif decide ((c2.toNat:Int)<B) then
   some (.inl (false,()))
  else
   (sj A E).bind fun c3=>
   bif decide ((c3.toNat:Int)>C) then
    some (.inl (false,()))
   else
    again (A,B,C,D,w64 (E+1),())
 else
  some (.inr ())
def Io (a0:Bys) (a1:Int) (a2:Int):Option (Bool×Unit):=
 aJ (
  iter (X:=rR) (β:=CB) (a0.length+(a1.natAbs+(a2.natAbs+(Int.natAbs ((a0.length:Int))+(Int.natAbs (0:Int)+2))))) (a0,a1,a2,(a0.length:Int),0,()) (xY)) fun _=>
 some (true,())
def wT (a0:Bys):Option (Bool×Unit):=
 bif !(a0==[]) then
  (Io a0 48 57).bind fun r1=>
  some (r1.1,())
 else
  some (false,())
abbrev A8:Type:=Bys×Int×Int×Int×Unit
abbrev A7:Type:=((Bool×Unit) ⊕ (Int×Unit))
def QU (x1:A8) (again:A8->Option A7):Option A7:=
 match x1 with
 | (A,B,C,D,_)=>
 bif decide (D<C) then
  let n2:Int:=w64 ((w64 (((A.length:Int)) - 1)) - D)
  (sj A n2).bind fun c3=>
  bif (Int.tmod D 2)==1 then
   let n4:Int:=w64 ((w64 (wu8 ((c3.toNat:Int) - 48)))*3)
   again (A,w64 (B+n4),C,w64 (D+1),())
  else
   let n5:Int:=w64 (B+(w64 (wu8 ((c3.toNat:Int) - 48))))
   again (A,n5,C,w64 (D+1),())
 else
  some (.inr (B,()))
def FE (a0:Bys):Option (Bool×Unit):=
 aJ (
  iter (X:=A8) (β:=A7) (a0.length+(Int.natAbs (0:Int)+(Int.natAbs ((a0.length:Int))+(Int.natAbs (0:Int)+2)))) (a0,0,(a0.length:Int),0,()) (QU)) fun v6=>
 some ((Int.tmod v6.1 10)==0,())
def vR (a0:Int) (a1:Bys):Option (Bool×Unit):=
 bif a0==4 then
  (El a1).bind fun r1=>
  some (r1.1,())
 else
  bif a0==5 then
   (L4 a1).bind fun r2=>
   some (r2.1,())
  else
   (Cl a0).bind fun r3=>
   (lG r3.1 ((a1.length:Int))).bind fun r4=>
   bif r4.1 then
    (wT a1).bind fun r5=>
    bif r5.1 then
     (FE a1).bind fun r6=>
     some (r6.1,())
    else
     some (false,())
   else
    some (false,())
def A5 (a0:Int) (a1:Bys):Option (Bool×Int×Unit):=
 (zy a0).bind fun r1=>
 bif !r1.1 then
  some (false,4,())
 else
  (vR a0 a1).bind fun r2=>
  some (r2.1,0,())
def rZ (a0:Bys):Option (Bool×Unit):=
 (A5 3 a0).bind fun r1=>
 some (r1.1,())
def dY (a0:ax) (a1:Bool):Option (Int×Unit):=
 (lu a0).bind fun r1=>
 bif r1.1 != 0 then
  some (r1.1,())
 else
  (Bx a0 3 1000000000).bind fun r2=>
  bif !r2.1 then
   some (1,())
  else
   bif a0.1==0 then
    bif !a1 then
     some (1,())
    else
     some (0,())
   else
    some (0,())
abbrev zD:Type:=Int×(List Int)×Int×Int×Unit
abbrev Em:Type:=((Int×Unit) ⊕ (Int×Unit))
def zC (x1:zD) (again:zD->Option Em):Option Em:=
 match x1 with
 | (A,B,C,D,_)=>
 bif decide (D<C) then
  (idx B D).bind fun y2=>
  bif y2 != A then
   some (.inl (y2,()))
  else
   again (A,B,C,w64 (D+1),())
 else
  some (.inr (A,()))
def Bc (a0:List Int):Option (Int×Unit):=
 aJ (
  iter (X:=zD) (β:=Em) (Int.natAbs (0:Int)+(a0.length+(Int.natAbs ((a0.length:Int))+(Int.natAbs (0:Int)+2)))) (0,a0,(a0.length:Int),0,()) (zC)) fun v3=>
 some (v3.1,())
def bE (a0:aa) (a1:aa):Option (Int×Unit):=
 (strings_Compare a0.1 a1.1).bind fun r1=>
 (strings_Compare a0.2.1 a1.2.1).bind fun r2=>
 (strings_Compare a0.2.2.1 a1.2.2.1).bind fun r3=>
 (Bc [r1.1,r2.1,r3.1]).bind fun r4=>
 some (r4.1,())
abbrev kZ:Type:=(List aa)×(List aa)×Int×Int×Unit
abbrev pG:Type:=((Int×Unit) ⊕ Unit)
def kY (x1:kZ) (again:kZ->Option pG):Option pG:=
 match x1 with
 | (A,B,C,D,_)=>
 bif decide (D<C) then
  (idx B D).bind fun y2=>
  (ij y2.1).bind fun r3=>
  bif !r3.1 then
   some (.inl (5,()))
  else
   (ij y2.2.1).bind fun r4=>
   bif !r4.1 then
    some (.inl (5,()))
   else
    bif !(y2.2.2.1==[]) then
     (ij y2.2.2.1).bind fun r5=>
     bif !r5.1 then
      some (.inl (5,()))
     else
      bif decide (D>0) then
       (idx A (w64 (D - 1))).bind fun y6=>
       (bE y6 y2).bind fun r7=>
       bif decide (r7.1>=0) then
        some (.inl (8,()))
       else
        (dY y2.2.2.2 false).bind fun r8=>
        bif r8.1 != 0 then
         some (.inl (r8.1,()))
        else
         again (A,B,C,w64 (D+1),())
      else
       (dY y2.2.2.2 false).bind fun r9=>
       bif r9.1 != 0 then
        some (.inl (r9.1,()))
       else
        again (A,B,C,w64 (D+1),())
    else
     bif decide (D>0) then
      (idx A (w64 (D - 1))).bind fun y10=>
      (bE y10 y2).bind fun r11=>
      bif decide (r11.1>=0) then
       some (.inl (8,()))
      else
       (dY y2.2.2.2 false).bind fun r12=>
       bif r12.1 != 0 then
        some (.inl (r12.1,()))
       else
        again (A,B,C,w64 (D+1),())
     else
      (dY y2.2.2.2 false).bind fun r13=>
      bif r13.1 != 0 then
       some (.inl (r13.1,()))
      else
       again (A,B,C,w64 (D+1),())
 else
  some (.inr ())
def iq (a0:List aa):Option (Int×Unit):=
 bif decide (((a0.length:Int))>100) then
  some (2,())
 else
  aJ (
   iter (X:=kZ) (β:=pG) (a0.length+(a0.length+(Int.natAbs ((a0.length:Int))+(Int.natAbs (0:Int)+2)))) (a0,a0,(a0.length:Int),0,()) (kY)) fun _=>
  some (0,())
def qv (a0:List ak) (a1:Int):Option (Int×Unit):=
 (idx a0 a1).bind fun y1=>
 (rZ y1.1).bind fun r2=>
 bif !r2.1 then
  some (3,())
 else
  bif decide (a1>0) then
   (idx a0 (w64 (a1 - 1))).bind fun y3=>
   bif Op.bytesLess y1.1 y3.1||y1.1==y3.1 then
    some (8,())
   else
    (dY y1.2.2.1 true).bind fun r4=>
    bif r4.1 != 0 then
     some (r4.1,())
    else
     (iq y1.2.2.2).bind fun r5=>
     some (r5.1,())
  else
   (dY y1.2.2.1 true).bind fun r6=>
   bif r6.1 != 0 then
    some (r6.1,())
   else
    (iq y1.2.2.2).bind fun r7=>
    some (r7.1,())
def yG (a0:ak) (a1:Bys):Option (Int×Unit):=
 (strings_Compare a0.1 a1).bind fun r1=>
 some (r1.1,())
abbrev b9:Type:=(List ak)×Bys×Unit×Int×Int×Int×Unit
abbrev eX:Type:=((Int×Bool×Unit) ⊕ ((List ak)×Bys×Unit×Int×Int×Unit))
def eW (x1:b9) (again:b9->Option eX):Option eX:=
 match x1 with
 | (A,B,C,D,E,F,_)=>
 bif decide (E<F) then
  let n2:Int:=w64 (Int.fdiv (bS (w64 (E+F))) (2 ^ 1))
  (idx A n2).bind fun y3=>
  (yG y3 B).bind fun r4=>
  bif decide (r4.1<0) then
   again (A,B,C,D,w64 (n2+1),F,())
  else
   again (A,B,C,D,E,n2,())
 else
  some (.inr (A,B,C,D,E,()))
def dy (a0:List ak) (a1:Bys) (a2:Unit):Option (Int×Bool×Unit):=
 aJ (
  iter (X:=b9) (β:=eX) (a0.length+(a1.length+(Int.natAbs ((a0.length:Int))+(Int.natAbs (0:Int)+(Int.natAbs ((a0.length:Int))+2))))) (a0,a1,a2,(a0.length:Int),0,(a0.length:Int),()) (eW)) fun (A,B,_,C,D,_)=>
 bif decide (D<C) then
  (idx A D).bind fun y6=>
  (yG y6 B).bind fun r7=>
  some (D,r7.1==0,())
 else
  some (D,false,())
def kH (a0:aG) (a1:Bys):Option (Int×Bool×Unit):=
 (dy a0.2.2.2 a1 ()).bind fun r1=>
 some (r1.1,r1.2.1,())
abbrev lQ:Type:=Int×(List Int)×Int×Bys×Bys×Int×(List ak)×Unit
abbrev jv:Type:=(((List Int)×Bool×Unit) ⊕ ((List Int)×Unit))
def tU (x1:lQ) (again:lQ->Option jv):Option jv:=
 match x1 with
 | (A,B,C,D,E,F,G,_)=>
 (idx G C).bind fun y2=>
 bif !(y2.2.1==[]) then
  (idx G C).bind fun y3=>
  (kH (D,E,F,G) y3.2.1).bind fun r4=>
  bif r4.1==A then
   some (.inl ([],false,()))
  else
   (lG B r4.1).bind fun r5=>
   bif r5.1 then
    some (.inl (B,true,()))
   else
    chk (decide (((B.length)+1)*8<=140737488355328)&&decide ((B.length)+1<=maxLen)) <|
    again (A,B++[r4.1],r4.1,D,E,F,G,())
 else
  some (.inr (B,()))
def kT (a0:aG) (a1:Int):Option ((List Int)×Bool×Unit):=
 aJ (
  iter (X:=lQ) (β:=jv) (a1.natAbs+(List.length ([]:List Int)+(a1.natAbs+(a0.1.length+(a0.2.1.length+(a0.2.2.1.natAbs+(a0.2.2.2.length+2))))))) (a1,[],a1,a0.1,a0.2.1,a0.2.2.1,a0.2.2.2,()) (tU)) fun v6=>
 some (v6.1,true,())
abbrev oT:Type:=(List ak)×Int×Int×Bys×Bys×Int×(List ak)×Unit
abbrev vC:Type:=((Int×Unit) ⊕ (Bys×Bys×Int×(List ak)×Unit))
def oQ (x1:oT) (again:oT->Option vC):Option vC:=
 match x1 with
 | (A,B,C,D,E,F,G,_)=>
 bif decide (C<B) then
  (idx A C).bind fun y2=>
  (kH (D,E,F,G) y2.2.1).bind fun r3=>
  bif !(y2.2.1==[]) then
   bif !r3.2.1 then
    some (.inl (9,()))
   else
    again (A,B,w64 (C+1),D,E,F,G,())
  else
   again (A,B,w64 (C+1),D,E,F,G,())
 else
  some (.inr (D,E,F,G,()))
abbrev oU:Type:=Int×Int×Bys×Bys×Int×(List ak)×Unit
abbrev vD:Type:=((Int×Unit) ⊕ (Bys×Bys×Int×(List ak)×Unit))
def oS (x1:oU) (again:oU->Option vD):Option vD:=
 match x1 with
 | (A,B,C,D,E,F,_)=>
 bif decide (B<A) then
  (kT (C,D,E,F) B).bind fun r2=>
  bif !r2.2.1 then
   some (.inl (17,()))
  else
   again (A,w64 (B+1),C,D,E,F,())
 else
  some (.inr (C,D,E,F,()))
abbrev nD:Type:=Int×Int×Bys×Bys×Int×(List ak)×Unit
abbrev tW:Type:=((Int×Unit) ⊕ Unit)
def nC (x1:nD) (again:nD->Option tW):Option tW:=
 match x1 with
 | (A,B,C,D,E,F,_)=>
 bif decide (B<A) then
  (kT (C,D,E,F) B).bind fun r2=>
  bif decide (((r2.1.length:Int))>5) then
   some (.inl (2,()))
  else
   again (A,w64 (B+1),C,D,E,F,())
 else
  some (.inr ())
def tV (a0:aG):Option (Int×Unit):=
 aJ (
  iter (X:=oT) (β:=vC) (a0.2.2.2.length+(Int.natAbs ((a0.2.2.2.length:Int))+(Int.natAbs (0:Int)+(a0.1.length+(a0.2.1.length+(a0.2.2.1.natAbs+(a0.2.2.2.length+2))))))) (a0.2.2.2,(a0.2.2.2.length:Int),0,a0.1,a0.2.1,a0.2.2.1,a0.2.2.2,()) (oQ)) fun (A,B,C,D,_)=>
 aJ (
  iter (X:=oU) (β:=vD) (Int.natAbs ((D.length:Int))+(Int.natAbs (0:Int)+(A.length+(B.length+(C.natAbs+(D.length+2)))))) ((D.length:Int),0,A,B,C,D,()) (oS)) fun (E,F,G,H,_)=>
 aJ (
  iter (X:=nD) (β:=tW) (Int.natAbs ((H.length:Int))+(Int.natAbs (0:Int)+(E.length+(F.length+(G.natAbs+(H.length+2)))))) ((H.length:Int),0,E,F,G,H,()) (nC)) fun _=>
 some (0,())
abbrev mN:Type:=Int×Int×Bys×Bys×Int×(List ak)×Unit
abbrev rX:Type:=((Int×Unit) ⊕ (Bys×Bys×Int×(List ak)×Unit))
def mM (x1:mN) (again:mN->Option rX):Option rX:=
 match x1 with
 | (A,B,C,D,E,F,_)=>
 bif decide (B<A) then
  (qv F B).bind fun r2=>
  bif r2.1 != 0 then
   some (.inl (r2.1,()))
  else
   again (A,w64 (B+1),C,D,E,F,())
 else
  some (.inr (C,D,E,F,()))
def mu (a0:aG):Option (Int×Unit):=
 (ij a0.1).bind fun r1=>
 bif !r1.1 then
  some (5,())
 else
  (ij a0.2.1).bind fun r2=>
  bif !r2.1 then
   some (5,())
  else
   (Ht a0.2.2.1).bind fun r3=>
   bif !r3.1 then
    some (1,())
   else
    bif decide (((a0.2.2.2.length:Int))>500) then
     some (2,())
    else
     aJ (
      iter (X:=mN) (β:=rX) (Int.natAbs ((a0.2.2.2.length:Int))+(Int.natAbs (0:Int)+(a0.1.length+(a0.2.1.length+(a0.2.2.1.natAbs+(a0.2.2.2.length+2)))))) ((a0.2.2.2.length:Int),0,a0.1,a0.2.1,a0.2.2.1,a0.2.2.2,()) (mM)) fun (A,B,C,D,_)=>
     (tV (A,B,C,D)).bind fun r7=>
     some (r7.1,())
def Nl (a0:Int):Option (Bool×Unit):=
 (sW a0 1 5).bind fun r1=>
 some (r1.1,())
abbrev si:Type:=Bys×Int×Int×Unit
abbrev CQ:Type:=((Bool×Unit) ⊕ Unit)
def yu (x1:si) (again:si->Option CQ):Option CQ:=
 bif decide (x1.2.2.1<x1.2.1) then
  (sj x1.1 x1.2.2.1).bind fun c2=>
  bif decide ((c2.toNat:Int)<48) then
   some (.inl (false,()))
  else
   (sj x1.1 x1.2.2.1).bind fun c3=>
   bif decide ((c3.toNat:Int)>57) then
    some (.inl (false,()))
   else
    again (x1.1,x1.2.1,w64 (x1.2.2.1+1),())
 else
  some (.inr ())
def nT (a0:Bys):Option (Bool×Unit):=
 bif a0==[] then
  some (false,())
 else
  aJ (
   iter (X:=si) (β:=CQ) (a0.length+(Int.natAbs ((a0.length:Int))+(Int.natAbs (0:Int)+2))) (a0,(a0.length:Int),0,()) (yu)) fun _=>
  some (true,())
abbrev xh:Type:=Bys×Int×Int×Int×Unit
abbrev Gx:Type:=((Bool×Unit) ⊕ (Int×Unit))
def BU (x1:xh) (again:xh->Option Gx):Option Gx:=
 match x1 with
 | (A,B,C,D,_)=>
 bif decide (D<C) then
  let n2:Int:=w64 ((w64 (((A.length:Int)) - 1)) - D)
  (sj A n2).bind fun c3=>
  bif (Int.tmod D 2)==1 then
   let n4:Int:=w64 ((w64 (wu8 ((c3.toNat:Int) - 48)))*3)
   again (A,w64 (B+n4),C,w64 (D+1),())
  else
   let n5:Int:=w64 (B+(w64 (wu8 ((c3.toNat:Int) - 48))))
   again (A,n5,C,w64 (D+1),())
 else
  some (.inr (B,()))
def sV (a0:Bys):Option (Bool×Unit):=
 aJ (
  iter (X:=xh) (β:=Gx) (a0.length+(Int.natAbs (0:Int)+(Int.natAbs ((a0.length:Int))+(Int.natAbs (0:Int)+2)))) (a0,0,(a0.length:Int),0,()) (BU)) fun v6=>
 some ((Int.tmod v6.1 10)==0,())
def Iz (a0:Int) (a1:Bys):Option (Bool×Unit):=
 bif a0==1 then
  (nT a1).bind fun r1=>
  bif r1.1 then
   bif ((a1.length:Int))==8 then
    (sV a1).bind fun r2=>
    some (r2.1,())
   else
    bif decide (((a1.length:Int))>=12) then
     bif decide (((a1.length:Int))<=14) then
      (sV a1).bind fun r3=>
      some (r3.1,())
     else
      some (false,())
    else
     some (false,())
  else
   some (false,())
 else
  bif a0==2 then
   (nT a1).bind fun r4=>
   bif r4.1 then
    bif ((a1.length:Int))==13 then
     (sV a1).bind fun r5=>
     some (r5.1,())
    else
     some (false,())
   else
    some (false,())
  else
   bif a0==3 then
    (nT a1).bind fun r6=>
    bif r6.1 then
     bif ((a1.length:Int))==18 then
      (sV a1).bind fun r7=>
      some (r7.1,())
     else
      some (false,())
    else
     some (false,())
   else
    bif a0==4 then
     (sW ((a1.length:Int)) 15 34).bind fun r8=>
     bif !r8.1 then
      some (false,())
     else
      chk (decide (0<=(0:Int))&&decide ((0:Int)<=2)&&decide (2<=(a1.length:Int))) <|
      (Gt (List.drop 0 (List.take (Int.toNat 2) a1)) false).bind fun r9=>
      bif !r9.1 then
       some (false,())
      else
       chk (decide (0<=(2:Int))&&decide ((2:Int)<=4)&&decide (4<=(a1.length:Int))) <|
       (nT (List.drop 2 (List.take (Int.toNat 4) a1))).bind fun r10=>
       bif !r10.1 then
        some (false,())
       else
        chk (decide (0<=(4:Int))&&decide ((4:Int)<=((a1.length:Int)))&&decide (((a1.length:Int))<=(a1.length:Int))) <|
        (Gt (List.drop 4 (List.take (Int.toNat ((a1.length:Int))) a1)) true).bind fun r11=>
        bif !r11.1 then
         some (false,())
        else
         chk (decide (0<=(2:Int))&&decide ((2:Int)<=4)&&decide (4<=(a1.length:Int))) <|
         bif !(Op.bytesLess (List.drop 2 (List.take (Int.toNat 4) a1)) [48,50]) then
          chk (decide (0<=(2:Int))&&decide ((2:Int)<=4)&&decide (4<=(a1.length:Int))) <|
          bif Op.bytesLess (List.drop 2 (List.take (Int.toNat 4) a1)) [57,56]||(List.drop 2 (List.take (Int.toNat 4) a1))==[57,56] then
           chk (decide (0<=(4:Int))&&decide ((4:Int)<=((a1.length:Int)))&&decide (((a1.length:Int))<=(a1.length:Int))) <|
           chk (decide (0<=(0:Int))&&decide ((0:Int)<=4)&&decide (4<=(a1.length:Int))) <|
           chk (decide (List.length (List.drop 4 (List.take (Int.toNat ((a1.length:Int))) a1))+List.length (List.drop 0 (List.take (Int.toNat 4) a1))<=maxLen)) <|
           (UR ((List.drop 4 (List.take (Int.toNat ((a1.length:Int))) a1))++(List.drop 0 (List.take (Int.toNat 4) a1)))).bind fun r12=>
           (No r12.1 97).bind fun r13=>
           some (r13.1==1,())
          else
           some (false,())
         else
          some (false,())
    else
     (nT a1).bind fun r14=>
     bif r14.1 then
      bif ((a1.length:Int))==11 then
       (sj a1 0).bind fun c15=>
       bif (c15.toNat:Int) != 48 then
        (sj a1 10).bind fun c16=>
        (Pn a1).bind fun r17=>
        some ((c16.toNat:Int)==r17.1,())
       else
        some (false,())
      else
       some (false,())
     else
      some (false,())
def Iw (a0:Int) (a1:Bys):Option (Bool×Int×Unit):=
 (Nl a0).bind fun r1=>
 bif !r1.1 then
  some (false,4,())
 else
  (Iz a0 a1).bind fun r2=>
  some (r2.1,0,())
def zf (a0:Bys):Option (Bool×Unit):=
 (Iw 3 a0).bind fun r1=>
 some (r1.1,())
def Oh (a0:ax) (a1:ax):Option (Int×Unit):=
 (Dm a0 9).bind fun r1=>
 (Dm a1 9).bind fun r2=>
 (Gn r1.1 r2.1).bind fun r3=>
 some (r3.1,())
def nJ (a0:ax) (a1:Bool):Option (Bool×Unit):=
 (qO a0).bind fun r1=>
 bif r1.1==0 then
  bif decide (a0.1>=0) then
   bif decide (a0.1>0) then
    (Oh a0 (1000000000,0)).bind fun r2=>
    bif decide (r2.1<=0) then
     some (decide (a0.2<=3),())
    else
     some (false,())
   else
    bif !a1 then
     (Oh a0 (1000000000,0)).bind fun r3=>
     bif decide (r3.1<=0) then
      some (decide (a0.2<=3),())
     else
      some (false,())
    else
     some (false,())
  else
   some (false,())
 else
  some (false,())
abbrev o8:Type:=(List Int)×Int×Int×Unit
abbrev vG:Type:=((Int×Unit) ⊕ Unit)
def oZ (x1:o8) (again:o8->Option vG):Option vG:=
 bif decide (x1.2.2.1<x1.2.1) then
  (idx x1.1 x1.2.2.1).bind fun y2=>
  bif y2 != 0 then
   some (.inl (y2,()))
  else
   again (x1.1,x1.2.1,w64 (x1.2.2.1+1),())
 else
  some (.inr ())
def eV (a0:aa) (a1:aa):Option (Int×Unit):=
 (strings_Compare a0.1 a1.1).bind fun r1=>
 (strings_Compare a0.2.1 a1.2.1).bind fun r2=>
 (strings_Compare a0.2.2.1 a1.2.2.1).bind fun r3=>
 aJ (
  iter (X:=o8) (β:=vG) (List.length [r1.1,r2.1,r3.1]+(Int.natAbs ((List.length [r1.1,r2.1,r3.1]:Int))+(Int.natAbs (0:Int)+2))) ([r1.1,r2.1,r3.1],(List.length [r1.1,r2.1,r3.1]:Int),0,()) (oZ)) fun _=>
 some (0,())
abbrev nI:Type:=(List aa)×(List aa)×Int×Int×Unit
abbrev um:Type:=((Int×Unit) ⊕ Unit)
def nH (x1:nI) (again:nI->Option um):Option um:=
 match x1 with
 | (A,B,C,D,_)=>
 bif decide (D<C) then
  (idx B D).bind fun y2=>
  (sU y2.1).bind fun r3=>
  bif !r3.1 then
   some (.inl (5,()))
  else
   (sU y2.2.1).bind fun r4=>
   bif !r4.1 then
    some (.inl (5,()))
   else
    bif !(y2.2.2.1==[]) then
     (sU y2.2.2.1).bind fun r5=>
     bif !r5.1 then
      some (.inl (5,()))
     else
      bif decide (D>0) then
       (idx A (w64 (D - 1))).bind fun y6=>
       (eV y6 y2).bind fun r7=>
       bif decide (r7.1>=0) then
        some (.inl (8,()))
       else
        (nJ y2.2.2.2 true).bind fun r8=>
        bif !r8.1 then
         some (.inl (1,()))
        else
         again (A,B,C,w64 (D+1),())
      else
       (nJ y2.2.2.2 true).bind fun r9=>
       bif !r9.1 then
        some (.inl (1,()))
       else
        again (A,B,C,w64 (D+1),())
    else
     bif decide (D>0) then
      (idx A (w64 (D - 1))).bind fun y10=>
      (eV y10 y2).bind fun r11=>
      bif decide (r11.1>=0) then
       some (.inl (8,()))
      else
       (nJ y2.2.2.2 true).bind fun r12=>
       bif !r12.1 then
        some (.inl (1,()))
       else
        again (A,B,C,w64 (D+1),())
     else
      (nJ y2.2.2.2 true).bind fun r13=>
      bif !r13.1 then
       some (.inl (1,()))
      else
       again (A,B,C,w64 (D+1),())
 else
  some (.inr ())
def iK (a0:List aa):Option (Int×Unit):=
 bif decide (((a0.length:Int))>100) then
  some (2,())
 else
  aJ (
   iter (X:=nI) (β:=um) (a0.length+(a0.length+(Int.natAbs ((a0.length:Int))+(Int.natAbs (0:Int)+2)))) (a0,a0,(a0.length:Int),0,()) (nH)) fun _=>
  some (0,())
abbrev qL:Type:=Bys×(List ak)×Int×Int×Unit
abbrev BJ:Type:=((Int×Unit) ⊕ Unit)
def wu (x1:qL) (again:qL->Option BJ):Option BJ:=
 match x1 with
 | (A,B,C,D,_)=>
 bif decide (D<C) then
  (idx B D).bind fun y2=>
  bif y2.1==A then
   some (.inl (D,()))
  else
   again (A,B,C,w64 (D+1),())
 else
  some (.inr ())
def mC (a0:List ak) (a1:Bys):Option (Int×Unit):=
 aJ (
  iter (X:=qL) (β:=BJ) (a1.length+(a0.length+(Int.natAbs ((a0.length:Int))+(Int.natAbs (0:Int)+2)))) (a1,a0,(a0.length:Int),0,()) (wu)) fun _=>
 some ((-1),())
abbrev se:Type:=(List ak)×Int×Int×Int×Int×Unit
abbrev Gk:Type:=((Bool×Unit) ⊕ Unit)
def xd (x1:se) (again:se->Option Gk):Option Gk:=
 match x1 with
 | (A,B,C,D,E,_)=>
 bif decide (E<D) then
  (idx A C).bind fun y2=>
  bif y2.2.1==[] then
   some (.inl (false,()))
  else
   (idx A C).bind fun y3=>
   (mC A y3.2.1).bind fun r4=>
   bif r4.1==B then
    some (.inl (true,()))
   else
    again (A,B,r4.1,D,w64 (E+1),())
 else
  some (.inr ())
def HE (a0:List ak) (a1:Int):Option (Bool×Unit):=
 aJ (
  iter (X:=se) (β:=Gk) (a0.length+(a1.natAbs+(a1.natAbs+(Int.natAbs ((a0.length:Int))+(Int.natAbs (0:Int)+2))))) (a0,a1,a1,(a0.length:Int),0,()) (xd)) fun _=>
 some (false,())
abbrev D5:Type:=(List ak)×Int×(List Int)×Unit
abbrev Nh:Type:=(((List Int)×Bool×Unit) ⊕ ((List Int)×Unit))
def Ng (x1:D5) (again:D5->Option Nh):Option Nh:=
 match x1 with
 | (A,B,C,_)=>
 (idx A B).bind fun y2=>
 bif !(y2.2.1==[]) then
  (idx A B).bind fun y3=>
  (mC A y3.2.1).bind fun r4=>
  bif decide (((C.length:Int))>((A.length:Int))) then
   some (.inl ([],false,()))
  else
   chk (decide (((C.length)+1)*8<=140737488355328)&&decide ((C.length)+1<=maxLen)) <|
   again (A,r4.1,C++[r4.1],())
 else
  some (.inr (C,()))
def Nf (a0:List ak) (a1:Int):Option ((List Int)×Bool×Unit):=
 aJ (
  iter (X:=D5) (β:=Nh) (a0.length+(a1.natAbs+(List.length ([a1]:List Int)+2))) (a0,a1,[a1],()) (Ng)) fun v5=>
 some (v5.1,true,())
abbrev BH:Type:=(List ak)×(List ak)×Int×Int×Unit
abbrev Gl:Type:=((Int×Unit) ⊕ ((List ak)×Unit))
def BF (x1:BH) (again:BH->Option Gl):Option Gl:=
 match x1 with
 | (A,B,C,D,_)=>
 bif decide (D<C) then
  (idx B D).bind fun y2=>
  bif !(y2.2.1==[]) then
   (mC A y2.2.1).bind fun r3=>
   bif decide (r3.1<0) then
    some (.inl (9,()))
   else
    again (A,B,C,w64 (D+1),())
  else
   again (A,B,C,w64 (D+1),())
 else
  some (.inr (A,()))
abbrev BI:Type:=(List ak)×Int×Int×Unit
abbrev Gm:Type:=((Int×Unit) ⊕ ((List ak)×Unit))
def BG (x1:BI) (again:BI->Option Gm):Option Gm:=
 bif decide (x1.2.2.1<x1.2.1) then
  (HE x1.1 x1.2.2.1).bind fun r2=>
  bif r2.1 then
   some (.inl (17,()))
  else
   again (x1.1,x1.2.1,w64 (x1.2.2.1+1),())
 else
  some (.inr (x1.1,()))
abbrev zK:Type:=(List ak)×Int×Int×Unit
abbrev Ey:Type:=((Int×Unit) ⊕ Unit)
def zJ (x1:zK) (again:zK->Option Ey):Option Ey:=
 bif decide (x1.2.2.1<x1.2.1) then
  (Nf x1.1 x1.2.2.1).bind fun r2=>
  bif !r2.2.1 then
   some (.inl (2,()))
  else
   bif decide ((w64 (((r2.1.length:Int)) - 1))>5) then
    some (.inl (2,()))
   else
    again (x1.1,x1.2.1,w64 (x1.2.2.1+1),())
 else
  some (.inr ())
def HF (a0:List ak):Option (Int×Unit):=
 aJ (
  iter (X:=BH) (β:=Gl) (a0.length+(a0.length+(Int.natAbs ((a0.length:Int))+(Int.natAbs (0:Int)+2)))) (a0,a0,(a0.length:Int),0,()) (BF)) fun v4=>
 aJ (
  iter (X:=BI) (β:=Gm) (v4.1.length+(Int.natAbs ((v4.1.length:Int))+(Int.natAbs (0:Int)+2))) (v4.1,(v4.1.length:Int),0,()) (BG)) fun v7=>
 aJ (
  iter (X:=zK) (β:=Ey) (v7.1.length+(Int.natAbs ((v7.1.length:Int))+(Int.natAbs (0:Int)+2))) (v7.1,(v7.1.length:Int),0,()) (zJ)) fun _=>
 some (0,())
abbrev qy:Type:=(List ak)×Int×Int×Bys×Bys×Int×(List ak)×Unit
abbrev w6:Type:=((Int×Unit) ⊕ (Bys×Bys×Int×(List ak)×Unit))
def qx (x1:qy) (again:qy->Option w6):Option w6:=
 match x1 with
 | (A,B,C,D,E,F,G,_)=>
 bif decide (C<B) then
  (idx A C).bind fun y2=>
  (zf y2.1).bind fun r3=>
  bif !r3.1 then
   some (.inl (3,()))
  else
   bif decide (C>0) then
    (idx G (w64 (C - 1))).bind fun y4=>
    bif Op.bytesLess y2.1 y4.1||y2.1==y4.1 then
     some (.inl (8,()))
    else
     (nJ y2.2.2.1 false).bind fun r5=>
     bif !r5.1 then
      some (.inl (1,()))
     else
      (iK y2.2.2.2).bind fun r6=>
      bif r6.1 != 0 then
       some (.inl (r6.1,()))
      else
       again (A,B,w64 (C+1),D,E,F,G,())
   else
    (nJ y2.2.2.1 false).bind fun r7=>
    bif !r7.1 then
     some (.inl (1,()))
    else
     (iK y2.2.2.2).bind fun r8=>
     bif r8.1 != 0 then
      some (.inl (r8.1,()))
     else
      again (A,B,w64 (C+1),D,E,F,G,())
 else
  some (.inr (D,E,F,G,()))
def vY (a0:aG):Option (Int×Unit):=
 (sU a0.1).bind fun r1=>
 bif !r1.1 then
  some (5,())
 else
  (sU a0.2.1).bind fun r2=>
  bif !r2.1 then
   some (5,())
  else
   (KK a0.2.2.1).bind fun r3=>
   bif !r3.1 then
    some (1,())
   else
    bif decide (((a0.2.2.2.length:Int))>500) then
     some (2,())
    else
     aJ (
      iter (X:=qy) (β:=w6) (a0.2.2.2.length+(Int.natAbs ((a0.2.2.2.length:Int))+(Int.natAbs (0:Int)+(a0.1.length+(a0.2.1.length+(a0.2.2.1.natAbs+(a0.2.2.2.length+2))))))) (a0.2.2.2,(a0.2.2.2.length:Int),0,a0.1,a0.2.1,a0.2.2.1,a0.2.2.2,()) (qx)) fun v12=>
     (HF v12.2.2.2.1).bind fun r13=>
     some (r13.1,())
abbrev CL:Type:=Int×Int×Int×Unit
abbrev CJ:Type:=((Int×Bool×Unit) ⊕ (Int×Unit))
def TT (x1:CL) (again:CL->Option CJ):Option CJ:=
 bif decide (x1.2.2.1<x1.2.1) then
  again (w64 (x1.1*10),x1.2.1,w64 (x1.2.2.1+1),())
 else
  some (.inr (x1.1,()))
def Ph (a0:Bys):Option (Int×Bool×Unit):=
 bif decide (((a0.length:Int))>15) then
  some (0,false,())
 else
  (wT a0).bind fun r1=>
  bif !r1.1 then
   some (0,false,())
  else
   aJ (
    iter (X:=CL) (β:=CJ) (Int.natAbs (1:Int)+(Int.natAbs (w64 (17 - ((a0.length:Int))))+(Int.natAbs (0:Int)+2))) (1,w64 (17 - ((a0.length:Int))),0,()) (TT)) fun v3=>
   some (v3.1,true,())
abbrev th:Type:=Int×Bys×Int×Unit
abbrev tg:Type:=((Bys×Int×Unit) ⊕ Unit)
def JW (x1:th) (again:th->Option tg):Option tg:=
 bif decide (x1.2.2.1<10) then
  (strconv_Itoa x1.2.2.1).bind fun r2=>
  chk (decide (x1.2.1.length+r2.1.length<=maxLen)) <|
  (vR x1.1 (x1.2.1++r2.1)).bind fun r3=>
  bif r3.1 then
   some (.inl (x1.2.1++r2.1,0,()))
  else
   again (x1.1,x1.2.1,w64 (x1.2.2.1+1),())
 else
  some (.inr ())
def FC (a0:Int) (a1:Bys):Option (Bys×Int×Unit):=
 (zy a0).bind fun r1=>
 bif !r1.1 then
  some ([],4,())
 else
  bif decide (((a1.length:Int))>34) then
   some ([],3,())
  else
   bif a0==4 then
    bif decide (((a1.length:Int))<2) then
     some ([],3,())
    else
     (KZ a1).bind fun r2=>
     bif !r2.1 then
      some ([],3,())
     else
      bif decide (((a1.length:Int))<13) then
       some ([],3,())
      else
       chk (decide (0<=(0:Int))&&decide ((0:Int)<=2)&&decide (2<=(a1.length:Int))) <|
       chk (decide (List.length (List.drop 0 (List.take (Int.toNat 2) a1))+List.length [48,48]<=maxLen)) <|
       chk (decide (0<=(2:Int))&&decide ((2:Int)<=((a1.length:Int)))&&decide (((a1.length:Int))<=(a1.length:Int))) <|
       chk (decide (List.length ((List.drop 0 (List.take (Int.toNat 2) a1))++[48,48])+List.length (List.drop 2 (List.take (Int.toNat ((a1.length:Int))) a1))<=maxLen)) <|
       (EK (((List.drop 0 (List.take (Int.toNat 2) a1))++[48,48])++(List.drop 2 (List.take (Int.toNat ((a1.length:Int))) a1)))).bind fun r3=>
       chk (decide (0<=(0:Int))&&decide ((0:Int)<=2)&&decide (2<=(a1.length:Int))) <|
       (K1 (w64 (98 - r3.1)) 2).bind fun r4=>
       chk (decide (List.length (List.drop 0 (List.take (Int.toNat 2) a1))+r4.1.length<=maxLen)) <|
       chk (decide (0<=(2:Int))&&decide ((2:Int)<=((a1.length:Int)))&&decide (((a1.length:Int))<=(a1.length:Int))) <|
       chk (decide (List.length ((List.drop 0 (List.take (Int.toNat 2) a1))++r4.1)+List.length (List.drop 2 (List.take (Int.toNat ((a1.length:Int))) a1))<=maxLen)) <|
       (El (((List.drop 0 (List.take (Int.toNat 2) a1))++r4.1)++(List.drop 2 (List.take (Int.toNat ((a1.length:Int))) a1)))).bind fun r5=>
       bif !r5.1 then
        some ([],3,())
       else
        some (((List.drop 0 (List.take (Int.toNat 2) a1))++r4.1)++(List.drop 2 (List.take (Int.toNat ((a1.length:Int))) a1)),0,())
   else
    aJ (
     iter (X:=th) (β:=tg) (a0.natAbs+(a1.length+(Int.natAbs (0:Int)+2))) (a0,a1,0,()) (JW)) fun _=>
    some ([],3,())
def Jh (a0:Bys) (a1:Int):Option (Bys×Int×Unit):=
 (Ph a0).bind fun r1=>
 bif !r1.2.1 then
  some ([],3,())
 else
  (nP a1 0 (w64 (r1.1 - 1))).bind fun r2=>
  bif r2.1 then
   some ([],1,())
  else
   (strconv_Itoa a1).bind fun r3=>
   let n4:Int:=w64 ((w64 (17 - ((a0.length:Int)))) - ((r3.1.length:Int)))
   (strings_Repeat [48] n4).bind fun r5=>
   chk (decide (a0.length+r5.1.length<=maxLen)) <|
   chk (decide (List.length (a0++r5.1)+r3.1.length<=maxLen)) <|
   (FC 3 ((a0++r5.1)++r3.1)).bind fun r6=>
   some (r6.1,r6.2.1,())
def MY:Option (Bool×Unit):=
 (Jh [51,52,48,49,50,51,52,53] 1).bind fun r1=>
 bif r1.2.1==0 then
  some (r1.1==[51,52,48,49,50,51,52,53,48,48,48,48,48,48,48,48,49,55],())
 else
  some (false,())
end Go.Md
namespace Go.Md
open Go.Dn
def iO (a0:ax):Option (ai×Unit):=
 (Dm a0 9).bind fun r1=>
 some (r1.1,())
abbrev Dl:Type:=Int×Bool×(List Int)×Int×Int×Unit
abbrev Iv:Type:=((ax×Int×Unit) ⊕ (Int×Bool×(List Int)×Int×Int×Unit))
def vk (x1:Dl) (again:Dl->Option Iv):Option Iv:=
 match x1 with
 | (A,B,C,D,E,_)=>
 bif decide (A>0) then
  (BN 10).bind fun r2=>
  (HG (false,C) r2.1).bind fun r3=>
  (CO r3.2.1).bind fun r4=>
  bif r4.1 != 0 then
   some (.inr (A,B,C,D,E,()))
  else
   bif B then
    (CO r3.1).bind fun r5=>
    again (w64 (A - 1),r5.1 != 0,r3.1.2,D,E,())
   else
    again (w64 (A - 1),false,r3.1.2,D,E,())
 else
  some (.inr (A,B,C,D,E,()))
def CN (a0:ai):Option (ax×Int×Unit):=
 aJ (
  iter (X:=Dl) (β:=Iv) (Int.natAbs (9:Int)+(a0.2.length+(Int.natAbs (0:Int)+(Int.natAbs (0:Int)+2)))) (9,a0.1,a0.2,0,0,()) (vk)) fun v6=>
 (KL (v6.2.1,v6.2.2.1) 1000000000000000).bind fun r7=>
 bif !r7.2.1 then
  some ((0,0),1,())
 else
  some ((r7.1,v6.1),0,())
end Go.Md
namespace Go.Md
open Go.Dn
def rK (a0:ax):Option (aB×Unit):=
 (jk a0 9).bind fun r1=>
 some (r1.1,())
def ze (a0:aB):Option (ax×Int×Unit):=
 (zx a0 9).bind fun r1=>
 some (r1.1,r1.2.1,())
end Go.Md
