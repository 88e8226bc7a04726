/-
  The plain models of the functions that the law reaches, a part. No condition.
-/
import Derived.Test.YtakjkcibbeeekaaGreatDoorYf
import Derived.Test.YtakjkcibbeeekaaGreatDoorYd
import Derived.Lib.Atoi
import Derived.Lib.IndexBytes
namespace Go.Md
open Go.Dn
abbrev qg:Type:=(List bw)×Int×Int×Unit
abbrev wG:Type:=((Int×Unit) ⊕ Unit)
def qd (x1:qg) (again:qg->Option wG):Option wG:=
 bif decide (x1.2.2.1<x1.2.1) then
  (idx x1.1 x1.2.2.1).bind fun y2=>
  (bZ y2.1).bind fun r3=>
  bif !r3.1 then
   some (.inl (5,()))
  else
   (bZ y2.2.1).bind fun r4=>
   bif !r4.1 then
    some (.inl (5,()))
   else
    (cc y2.2.2).bind fun r5=>
    bif r5.1 != 0 then
     some (.inl (r5.1,()))
    else
     bif decide (y2.2.2.1<0) then
      some (.inl (1,()))
     else
      again (x1.1,x1.2.1,w64 (x1.2.2.1+1),())
 else
  some (.inr ())
def uT (a0:List bw):Option (Int×Unit):=
 bif decide (((a0.length:Int))>100) then
  some (2,())
 else
  aG (
   iter (X:=qg) (β:=wG) (a0.length+(Int.natAbs ((a0.length:Int))+(Int.natAbs (0:Int)+2))) (a0,(a0.length:Int),0,()) (qd)) fun _=>
  some (0,())
abbrev qi:Type:=(List aj)×(List aj)×Int×Int×Unit
abbrev wH:Type:=((Int×Unit) ⊕ Unit)
def qh (x1:qi) (again:qi->Option wH):Option wH:=
 match x1 with
 | (A,B,C,D,_)=>
 bif decide (D<C) then
  (idx B D).bind fun y2=>
  (b8 y2.1 1 99999).bind fun r3=>
  bif r3.1 then
   some (.inl (1,()))
  else
   bif decide (D>0) then
    (idx A (w64 (D - 1))).bind fun y4=>
    bif decide (y2.1<=y4.1) then
     some (.inl (8,()))
    else
     (cc y2.2.2.2.2.2.2.2.2.2).bind fun r5=>
     bif r5.1 != 0 then
      some (.inl (r5.1,()))
     else
      bif decide (y2.2.2.2.2.2.2.2.2.2.1<0) then
       some (.inl (1,()))
      else
       again (A,B,C,w64 (D+1),())
   else
    (cc y2.2.2.2.2.2.2.2.2.2).bind fun r6=>
    bif r6.1 != 0 then
     some (.inl (r6.1,()))
    else
     bif decide (y2.2.2.2.2.2.2.2.2.2.1<0) then
      some (.inl (1,()))
     else
      again (A,B,C,w64 (D+1),())
 else
  some (.inr ())
def uU (a0:List aj):Option (Int×Unit):=
 bif decide (((a0.length:Int))>500) then
  some (2,())
 else
  aG (
   iter (X:=qi) (β:=wH) (a0.length+(a0.length+(Int.natAbs ((a0.length:Int))+(Int.natAbs (0:Int)+2)))) (a0,a0,(a0.length:Int),0,()) (qh)) fun _=>
  some (0,())
def ew (a0:ah):Option (au×Unit):=
 (jB a0 9).bind fun r1=>
 some (r1.1,())
def pq (a0:Int) (a1:Int) (a2:List aj):Option (Int×Unit):=
 (idx a2 a0).bind fun y1=>
 (idx a2 a1).bind fun y2=>
 some (w64 (y1.2.2.2.2.2.1 - y2.2.2.2.2.2.1),())
abbrev gG:Type:=Int×Int×(List aj)×Int×Int×(List Int)×Unit
abbrev gD:Type:=((((List Int)×Unit) ⊕ ((List Int)×Unit)) ⊕ (Int×Int×(List aj)×Int×(List Int)×Unit))
def gB (x1:gG) (again:gG->Option gD):Option gD:=
 match x1 with
 | (A,B,C,D,E,F,_)=>
 bif decide (E>A) then
  chk (decide (0<=E)&&decide (E<(F.length:Int))) <|
  (F[E.toNat]?).bind fun y2=>
  chk (decide (0<=(w64 (E - 1)))&&decide ((w64 (E - 1))<(F.length:Int))) <|
  (F[(w64 (E - 1)).toNat]?).bind fun y3=>
  (pq y2 y3 C).bind fun r4=>
  bif decide (r4.1<0) then
   chk (decide (0<=(w64 (E - 1)))&&decide ((w64 (E - 1))<(F.length:Int))) <|
   (F[(w64 (E - 1)).toNat]?).bind fun y5=>
   chk (decide (0<=E)&&decide (E<(F.length:Int))) <|
   (F[E.toNat]?).bind fun y6=>
   chk (decide (0<=E)&&decide (E<(F.length:Int))) <|
   (F[E.toNat]?).bind fun _=>
   chk (decide (0<=(w64 (E - 1)))&&decide ((w64 (E - 1))<(List.length (List.set F E.toNat y5):Int))) <|
   ((List.set F E.toNat y5)[(w64 (E - 1)).toNat]?).bind fun _=>
   again (A,B,C,D,w64 (E - 1),List.set (List.set F E.toNat y5) (w64 (E - 1)).toNat y6,())
  else
   some (.inr (A,B,C,D,F,()))
 else
  some (.inr (A,B,C,D,F,()))
abbrev gE:Type:=Int×Int×(List aj)×Int×(List Int)×Unit
abbrev gC:Type:=(((List Int)×Unit) ⊕ ((List Int)×Unit))
def eA (x1:gE) (again:gE->Option gC):Option gC:=
 match x1 with
 | (A,B,C,D,E,_)=>
 bif decide (D<B) then
  aG (
   iter (X:=gG) (β:=gD) (A.natAbs+(B.natAbs+(D.natAbs+(D.natAbs+(E.length+2))))) (A,B,C,D,D,E,()) (gB)) fun (F,G,H,I,J,_)=>
  again (F,G,H,w64 (I+1),J,())
 else
  some (.inr (E,()))
def fI (a0:List Int) (a1:Int) (a2:Int) (a3:List aj):Option ((List Int)×Unit):=
 aG (
  iter (X:=gE) (β:=gC) (a1.natAbs+(a2.natAbs+(Int.natAbs (w64 (a1+1))+(a0.length+2)))) (a1,a2,a3,w64 (a1+1),a0,()) (eA)) fun v11=>
 some (v11.1,())
abbrev iQ:Type:=Int×Int×Int×Int×(List Int)×Unit
abbrev iP:Type:=(((List Int)×Unit) ⊕ ((List Int)×Unit))
def iO (x1:iQ) (again:iQ->Option iP):Option iP:=
 match x1 with
 | (A,B,C,D,E,_)=>
 bif decide (D<C) then
  chk (decide (0<=(w64 (B+D)))&&decide ((w64 (B+D))<(E.length:Int))) <|
  (E[(w64 (B+D)).toNat]?).bind fun y2=>
  chk (decide (0<=(w64 (A+D)))&&decide ((w64 (A+D))<(E.length:Int))) <|
  (E[(w64 (A+D)).toNat]?).bind fun y3=>
  chk (decide (0<=(w64 (A+D)))&&decide ((w64 (A+D))<(E.length:Int))) <|
  (E[(w64 (A+D)).toNat]?).bind fun _=>
  chk (decide (0<=(w64 (B+D)))&&decide ((w64 (B+D))<(List.length (List.set E (w64 (A+D)).toNat y2):Int))) <|
  ((List.set E (w64 (A+D)).toNat y2)[(w64 (B+D)).toNat]?).bind fun _=>
  again (A,B,C,w64 (D+1),List.set (List.set E (w64 (A+D)).toNat y2) (w64 (B+D)).toNat y3,())
 else
  some (.inr (E,()))
def fq (a0:List Int) (a1:Int) (a2:Int) (a3:Int) (_a4:List aj):Option ((List Int)×Unit):=
 aG (
  iter (X:=iQ) (β:=iP) (a1.natAbs+(a2.natAbs+(a3.natAbs+(Int.natAbs (0:Int)+(a0.length+2))))) (a1,a2,a3,0,a0,()) (iO)) fun v6=>
 some (v6.1,())
abbrev jX:Type:=Int×(List aj)×Int×Int×(List Int)×Unit
abbrev jW:Type:=(((List Int)×Unit) ⊕ (Int×(List aj)×Int×(List Int)×Unit))
def jV (x1:jX) (again:jX->Option jW):Option jW:=
 match x1 with
 | (A,B,C,D,E,_)=>
 bif C != D then
  bif decide (C>D) then
   (fq E (w64 (A - C)) A D B).bind fun r2=>
   again (A,B,w64 (C - D),D,r2.1,())
  else
   (fq E (w64 (A - C)) (w64 ((w64 (A+D)) - C)) C B).bind fun r3=>
   again (A,B,C,w64 (D - C),r3.1,())
 else
  some (.inr (A,B,C,E,()))
def mL (a0:List Int) (a1:Int) (a2:Int) (a3:Int) (a4:List aj):Option ((List Int)×Unit):=
 aG (
  iter (X:=jX) (β:=jW) (a2.natAbs+(Int.natAbs (w64 (a2 - a1))+(Int.natAbs (w64 (a3 - a2))+(a0.length+2)))) (a2,a4,w64 (a2 - a1),w64 (a3 - a2),a0,()) (jV)) fun (A,B,C,D,_)=>
 (fq D (w64 (A - C)) A C B).bind fun r5=>
 some (r5.1,())
abbrev jk:Type:=Int×(List aj)×Int×Int×(List Int)×Unit
abbrev ji:Type:=(((List Int)×Unit) ⊕ (Int×Int×(List Int)×Unit))
def gx (x1:jk) (again:jk->Option ji):Option ji:=
 match x1 with
 | (A,B,C,D,E,_)=>
 bif decide (C<D) then
  let n2:Int:=w64 (Int.fdiv (cg (w64 (C+D))) (2 ^ 1))
  chk (decide (0<=n2)&&decide (n2<(E.length:Int))) <|
  (E[n2.toNat]?).bind fun y3=>
  chk (decide (0<=A)&&decide (A<(E.length:Int))) <|
  (E[A.toNat]?).bind fun y4=>
  (pq y3 y4 B).bind fun r5=>
  bif decide (r5.1<0) then
   again (A,B,w64 (n2+1),D,E,())
  else
   again (A,B,C,n2,E,())
 else
  some (.inr (A,C,E,()))
abbrev jl:Type:=Int×Int×(List Int)×Unit
abbrev jj:Type:=(((List Int)×Unit) ⊕ ((List Int)×Unit))
def jh (x1:jl) (again:jl->Option jj):Option jj:=
 match x1 with
 | (A,B,C,_)=>
 bif decide (B<(w64 (A - 1))) then
  chk (decide (0<=(w64 (B+1)))&&decide ((w64 (B+1))<(C.length:Int))) <|
  (C[(w64 (B+1)).toNat]?).bind fun y2=>
  chk (decide (0<=B)&&decide (B<(C.length:Int))) <|
  (C[B.toNat]?).bind fun y3=>
  chk (decide (0<=B)&&decide (B<(C.length:Int))) <|
  (C[B.toNat]?).bind fun _=>
  chk (decide (0<=(w64 (B+1)))&&decide ((w64 (B+1))<(List.length (List.set C B.toNat y2):Int))) <|
  ((List.set C B.toNat y2)[(w64 (B+1)).toNat]?).bind fun _=>
  again (A,w64 (B+1),List.set (List.set C B.toNat y2) (w64 (B+1)).toNat y3,())
 else
  some (.inr (C,()))
abbrev iV:Type:=Int×(List aj)×Int×Int×(List Int)×Unit
abbrev iS:Type:=(((List Int)×Unit) ⊕ (Int×Int×(List Int)×Unit))
def fS (x1:iV) (again:iV->Option iS):Option iS:=
 match x1 with
 | (A,B,C,D,E,_)=>
 bif decide (C<D) then
  let n2:Int:=w64 (Int.fdiv (cg (w64 (C+D))) (2 ^ 1))
  chk (decide (0<=A)&&decide (A<(E.length:Int))) <|
  (E[A.toNat]?).bind fun y3=>
  chk (decide (0<=n2)&&decide (n2<(E.length:Int))) <|
  (E[n2.toNat]?).bind fun y4=>
  (pq y3 y4 B).bind fun r5=>
  bif !(decide (r5.1<0)) then
   again (A,B,w64 (n2+1),D,E,())
  else
   again (A,B,C,n2,E,())
 else
  some (.inr (A,C,E,()))
abbrev iW:Type:=Int×Int×(List Int)×Unit
abbrev iT:Type:=(((List Int)×Unit) ⊕ ((List Int)×Unit))
def iR (x1:iW) (again:iW->Option iT):Option iT:=
 match x1 with
 | (A,B,C,_)=>
 bif decide (B>A) then
  chk (decide (0<=(w64 (B - 1)))&&decide ((w64 (B - 1))<(C.length:Int))) <|
  (C[(w64 (B - 1)).toNat]?).bind fun y2=>
  chk (decide (0<=B)&&decide (B<(C.length:Int))) <|
  (C[B.toNat]?).bind fun y3=>
  chk (decide (0<=B)&&decide (B<(C.length:Int))) <|
  (C[B.toNat]?).bind fun _=>
  chk (decide (0<=(w64 (B - 1)))&&decide ((w64 (B - 1))<(List.length (List.set C B.toNat y2):Int))) <|
  ((List.set C B.toNat y2)[(w64 (B - 1)).toNat]?).bind fun _=>
  again (A,w64 (B - 1),List.set (List.set C B.toNat y2) (w64 (B - 1)).toNat y3,())
 else
  some (.inr (C,()))
abbrev iX:Type:=Int×Int×Int×(List aj)×Int×Int×Int×Int×Int×(List Int)×Unit
abbrev iU:Type:=(((List Int)×Unit) ⊕ (Int×Int×Int×(List aj)×Int×Int×Int×(List Int)×Unit))
def fT (x1:iX) (again:iX->Option iU):Option iU:=
 match x1 with
 | (A,B,C,D,E,F,G,H,I,J,_)=>
 bif decide (G<H) then
  let n2:Int:=w64 (Int.fdiv (cg (w64 (G+H))) (2 ^ 1))
  chk (decide (0<=(w64 (I - n2)))&&decide ((w64 (I - n2))<(J.length:Int))) <|
  (J[(w64 (I - n2)).toNat]?).bind fun y3=>
  chk (decide (0<=n2)&&decide (n2<(J.length:Int))) <|
  (J[n2.toNat]?).bind fun y4=>
  (pq y3 y4 D).bind fun r5=>
  bif !(decide (r5.1<0)) then
   again (A,B,C,D,E,F,w64 (n2+1),H,I,J,())
  else
   again (A,B,C,D,E,F,G,n2,I,J,())
 else
  some (.inr (A,B,C,D,E,F,G,J,()))
def dF (self:((List Int)×Int×Int×Int×(List aj)×Unit)->Option ((List Int)×Unit)) (a0:List Int) (a1:Int) (a2:Int) (a3:Int) (a4:List aj):Option ((List Int)×Unit):=
 bif (w64 (a2 - a1))==1 then
  aG (
   iter (X:=jk) (β:=ji) (a1.natAbs+(a2.natAbs+(a3.natAbs+(a0.length+2)))) (a1,a4,a2,a3,a0,()) (gx)) fun (A,B,C,_)=>
  aG (
   iter (X:=jl) (β:=jj) (B.natAbs+(A.natAbs+(C.length+2))) (B,A,C,()) (jh)) fun v12=>
  some (v12.1,())
 else
  bif (w64 (a3 - a2))==1 then
   aG (
    iter (X:=iV) (β:=iS) (a2.natAbs+(a1.natAbs+(a2.natAbs+(a0.length+2)))) (a2,a4,a1,a2,a0,()) (fS)) fun (D,E,F,_)=>
   aG (
    iter (X:=iW) (β:=iT) (E.natAbs+(D.natAbs+(F.length+2))) (E,D,F,()) (iR)) fun v24=>
   some (v24.1,())
  else
   let n25:Int:=w64 (Int.fdiv (cg (w64 (a1+a3))) (2 ^ 1))
   aG (γ:=(Int×Int×Int×(List aj)×Int×Int×Int×Int×(List Int)×Unit)) (
    bif decide (a2>n25) then
     some (.inr (a1,a2,a3,a4,n25,w64 (n25+a2),w64 ((w64 (n25+a2)) - a3),n25,a0,()))
    else
     some (.inr (a1,a2,a3,a4,n25,w64 (n25+a2),a1,a2,a0,()))) fun (G,H,I,J,K,L,M,N,O,_)=>
   aG (
    iter (X:=iX) (β:=iU) (G.natAbs+(H.natAbs+(I.natAbs+(K.natAbs+(L.natAbs+(M.natAbs+(N.natAbs+(Int.natAbs (w64 (L - 1))+(O.length+2))))))))) (G,H,I,J,K,L,M,N,w64 (L - 1),O,()) (fT)) fun (P,Q,R,S,T,U,V,W,_)=>
   bif decide (V<Q) then
    aG (γ:=(Int×Int×(List aj)×Int×Int×Int×(List Int)×Unit)) (
     bif decide (Q<(w64 (U - V))) then
      (mL W V Q (w64 (U - V)) S).bind fun r33=>
      some (.inr (P,R,S,T,V,w64 (U - V),r33.1,()))
     else
      some (.inr (P,R,S,T,V,w64 (U - V),W,()))) fun (Y,Z,A0,B0,C0,D0,E0,_)=>
    bif decide (Y<C0) then
     aG (γ:=(Int×(List aj)×Int×Int×(List Int)×Unit)) (
      bif decide (C0<B0) then
       (self (E0,Y,C0,B0,A0,())).bind fun r35=>
       some (.inr (Z,A0,B0,D0,r35.1,()))
      else
       some (.inr (Z,A0,B0,D0,E0,()))) fun (F0,G0,H0,I0,J0,_)=>
     bif decide (H0<I0) then
      bif decide (I0<F0) then
       (self (J0,H0,I0,F0,G0,())).bind fun r37=>
       some (r37.1,())
      else
       some (J0,())
     else
      some (J0,())
    else
     aG (γ:=(Int×(List aj)×Int×Int×(List Int)×Unit)) (
      some (.inr (Z,A0,B0,D0,E0,()))) fun (K0,L0,M0,N0,O0,_)=>
     bif decide (M0<N0) then
      bif decide (N0<K0) then
       (self (O0,M0,N0,K0,L0,())).bind fun r39=>
       some (r39.1,())
      else
       some (O0,())
     else
      some (O0,())
   else
    aG (γ:=(Int×Int×(List aj)×Int×Int×Int×(List Int)×Unit)) (
     some (.inr (P,R,S,T,V,w64 (U - V),W,()))) fun (P0,Q0,R0,S0,T0,U0,V0,_)=>
    bif decide (P0<T0) then
     aG (γ:=(Int×(List aj)×Int×Int×(List Int)×Unit)) (
      bif decide (T0<S0) then
       (self (V0,P0,T0,S0,R0,())).bind fun r41=>
       some (.inr (Q0,R0,S0,U0,r41.1,()))
      else
       some (.inr (Q0,R0,S0,U0,V0,()))) fun (W0,X0,Y0,Z0,A1,_)=>
     bif decide (Y0<Z0) then
      bif decide (Z0<W0) then
       (self (A1,Y0,Z0,W0,X0,())).bind fun r43=>
       some (r43.1,())
      else
       some (A1,())
     else
      some (A1,())
    else
     aG (γ:=(Int×(List aj)×Int×Int×(List Int)×Unit)) (
      some (.inr (Q0,R0,S0,U0,V0,()))) fun (B1,C1,D1,E1,F1,_)=>
     bif decide (D1<E1) then
      bif decide (E1<B1) then
       (self (F1,D1,E1,B1,C1,())).bind fun r45=>
       some (r45.1,())
      else
       some (F1,())
     else
      some (F1,())
def l7 (a0:List Int) (a1:Int) (a2:Int) (a3:Int) (_a4:List aj):Nat:=a0.length+(a1.natAbs+(a2.natAbs+(a3.natAbs+2)))
def iq (a0:List Int) (a1:Int) (a2:Int) (a3:Int) (a4:List aj):Option ((List Int)×Unit):=
 zx (fun self x=>dF self x.1 x.2.1 x.2.2.1 x.2.2.2.1 x.2.2.2.2.1) (l7 a0 a1 a2 a3 a4) (a0,a1,a2,a3,a4,())
abbrev kr:Type:=Int×(List aj)×Int×Int×Int×(List Int)×Unit
abbrev ki:Type:=(((List Int)×Unit) ⊕ (Int×(List aj)×Int×Int×(List Int)×Unit))
def jY (x1:kr) (again:kr->Option ki):Option ki:=
 match x1 with
 | (A,B,C,D,E,F,_)=>
 bif decide (E<=A) then
  (fI F D E B).bind fun r2=>
  again (A,B,C,E,w64 (E+C),r2.1,())
 else
  some (.inr (A,B,C,D,F,()))
abbrev kz:Type:=Int×(List aj)×Int×Int×Int×(List Int)×Unit
abbrev ko:Type:=((((List Int)×Unit) ⊕ ((List Int)×Unit)) ⊕ (Int×(List aj)×Int×Int×(List Int)×Unit))
def kg (x1:kz) (again:kz->Option ko):Option ko:=
 match x1 with
 | (A,B,C,D,E,F,_)=>
 bif decide (E<=A) then
  (iq F D (w64 (D+C)) E B).bind fun r2=>
  again (A,B,C,E,w64 (E+(w64 (2*C))),r2.1,())
 else
  some (.inr (A,B,C,D,F,()))
abbrev ku:Type:=Int×(List aj)×Int×(List Int)×Unit
abbrev kj:Type:=(((List Int)×Unit) ⊕ ((List Int)×Unit))
def jZ (x1:ku) (again:ku->Option kj):Option kj:=
 match x1 with
 | (A,B,C,D,_)=>
 bif decide (C<A) then
  aG (
   iter (X:=kz) (β:=ko) (A.natAbs+(C.natAbs+(Int.natAbs (0:Int)+(Int.natAbs (w64 (2*C))+(D.length+2))))) (A,B,C,0,w64 (2*C),D,()) (kg)) fun (E,F,G,H,I,_)=>
  bif decide ((w64 (H+G))<E) then
   (iq I H (w64 (H+G)) E F).bind fun r3=>
   again (E,F,w64 (G*2),r3.1,())
  else
   again (E,F,w64 (G*2),I,())
 else
  some (.inr (D,()))
def qY (a0:List Int) (a1:Int) (a2:List aj):Option ((List Int)×Unit):=
 aG (
  iter (X:=kr) (β:=ki) (a1.natAbs+(Int.natAbs (20:Int)+(Int.natAbs (0:Int)+(Int.natAbs (20:Int)+(a0.length+2))))) (a1,a2,20,0,20,a0,()) (jY)) fun (A,B,C,D,E,_)=>
 (fI E D A B).bind fun r4=>
 aG (
  iter (X:=ku) (β:=kj) (A.natAbs+(C.natAbs+(r4.1.length+2))) (A,B,C,r4.1,()) (jZ)) fun v10=>
 some (v10.1,())
def lX (a0:List Int) (a1:List aj):Option ((List Int)×Unit):=
 (qY a0 ((a0.length:Int)) a1).bind fun r1=>
 some (r1.1,())
def xK (a0:au):Option (ah×Int×Unit):=
 (mY a0 9).bind fun r1=>
 some (r1.1,r1.2.1,())
abbrev tg:Type:=(List bw)×(List Int)×(List aj)×Int×Int×(List aj)×(List au)×Unit
abbrev Dd:Type:=(((List ff)×(List bw)×Int×Unit) ⊕ ((List bw)×(List Int)×(List aj)×(List au)×Unit))
def yC (x1:tg) (again:tg->Option Dd):Option Dd:=
 match x1 with
 | (A,B,C,D,E,F,G,_)=>
 bif decide (E<D) then
  (idx C E).bind fun y2=>
  chk (decide (((B.length)+1)*8<=140737488355328)&&decide ((B.length)+1<=maxLen)) <|
  (ew y2.2.2.2.2.2.2.2.2.2).bind fun r3=>
  chk (decide (0<=E)&&decide (E<(G.length:Int))) <|
  (G[E.toNat]?).bind fun _=>
  again (A,B++[E],C,D,w64 (E+1),F,List.set G E.toNat r3.1,())
 else
  some (.inr (A,B,F,G,()))
abbrev tq:Type:=(List Int)×(List bw)×(List bw)×Int×Int×(List Int)×Int×Int×(List aj)×Bys×Bys×Int×Int×Bool×(List Int)×(List au)×Unit
abbrev Df:Type:=((((List ff)×(List bw)×Int×Unit) ⊕ ((List bw)×(List aj)×(List au)×Unit)) ⊕ ((List Int)×(List bw)×(List bw)×Int×Int×(List aj)×Bys×Bys×Int×Int×Bool×(List Int)×(List au)×Unit))
def yE (x1:tq) (again:tq->Option Df):Option Df:=
 match x1 with
 | (A,B,C,D,E,F,G,H,I,J,K,L,M,N,O,P,_)=>
 bif decide (H<G) then
  (idx F H).bind fun y2=>
  (idx I y2).bind fun y3=>
  bif !(y3.2.1==J) then
   again (A,B,C,D,E,F,G,w64 (H+1),I,J,K,L,M,N,O,P,())
  else
   (idx I y2).bind fun y4=>
   bif !(y4.2.2.1==K) then
    again (A,B,C,D,E,F,G,w64 (H+1),I,J,K,L,M,N,O,P,())
   else
    chk (decide (0<=y2)&&decide (y2<(P.length:Int))) <|
    (P[y2.toNat]?).bind fun y5=>
    (jS y5 (N,O)).bind fun r6=>
    aG (γ:=((List Int)×(List bw)×Int×(List bw)×Int×Int×(List Int)×Int×Int×(List aj)×Bys×Bys×Int×Int×Bool×(List Int)×Bool×(List Int)×(List au)×Unit)) (
     bif decide (r6.1<0) then
      chk (decide (0<=y2)&&decide (y2<(P.length:Int))) <|
      (P[y2.toNat]?).bind fun y7=>
      some (.inr (A,B,y2,C,D,E,F,G,H,I,J,K,L,M,N,O,y7.1,y7.2,P,()))
     else
      some (.inr (A,B,y2,C,D,E,F,G,H,I,J,K,L,M,N,O,N,O,P,()))) fun (Q,R,S,T,U,V,W,X,Y,Z,A0,B0,C0,D0,E0,F0,G0,H0,I0,_)=>
    (lV (E0,F0) (G0,H0)).bind fun r9=>
    chk (decide (0<=S)&&decide (S<(I0.length:Int))) <|
    (I0[S.toNat]?).bind fun y10=>
    (lV y10 (G0,H0)).bind fun r11=>
    chk (decide (0<=S)&&decide (S<(I0.length:Int))) <|
    (I0[S.toNat]?).bind fun _=>
    again (Q,R,T,U,V,W,X,w64 (Y+1),Z,A0,B0,C0,D0,r9.1.1,r9.1.2,List.set I0 S.toNat r11.1,())
 else
  some (.inr (A,B,C,D,E,I,J,K,L,M,N,O,P,()))
abbrev tj:Type:=(List Int)×(List bw)×(List bw)×Int×Int×(List aj)×(List au)×Unit
abbrev De:Type:=(((List ff)×(List bw)×Int×Unit) ⊕ ((List bw)×(List aj)×(List au)×Unit))
def yD (x1:tj) (again:tj->Option De):Option De:=
 match x1 with
 | (A,B,C,D,E,F,G,_)=>
 bif decide (E<D) then
  (idx C E).bind fun y2=>
  (ew y2.2.2).bind fun r3=>
  aG (
   iter (X:=tq) (β:=Df) (A.length+(B.length+(C.length+(D.natAbs+(E.natAbs+(A.length+(Int.natAbs ((A.length:Int))+(Int.natAbs (0:Int)+(F.length+(y2.1.length+(y2.2.1.length+(y2.2.2.1.natAbs+(y2.2.2.2.natAbs+(r3.1.2.length+(G.length+2))))))))))))))) (A,B,C,D,E,A,(A.length:Int),0,F,y2.1,y2.2.1,y2.2.2.1,y2.2.2.2,r3.1.1,r3.1.2,G,()) (yE)) fun (H,I,J,K,L,M,N,O,_,_,P,Q,R,_)=>
  (fP (P,Q)).bind fun r5=>
  bif decide (r5.1>0) then
   (xK (P,Q)).bind fun r6=>
   bif r6.2.1 != 0 then
    some (.inl ([],[],r6.2.1,()))
   else
    chk (decide (((I.length)+1)*48<=140737488355328)&&decide ((I.length)+1<=maxLen)) <|
    again (H,I++[(N,O,r6.1)],J,K,w64 (L+1),M,R,())
  else
   again (H,I,J,K,w64 (L+1),M,R,())
 else
  some (.inr (B,F,G,()))
abbrev tu:Type:=(List bw)×(List ff)×(List aj)×Int×Int×(List au)×Unit
abbrev Dh:Type:=(((List ff)×(List bw)×Int×Unit) ⊕ ((List bw)×(List ff)×Unit))
def yF (x1:tu) (again:tu->Option Dh):Option Dh:=
 match x1 with
 | (A,B,C,D,E,F,_)=>
 bif decide (E<D) then
  (idx C E).bind fun y2=>
  (ew y2.2.2.2.2.2.2.2.2.2).bind fun r3=>
  chk (decide (0<=E)&&decide (E<(F.length:Int))) <|
  (F[E.toNat]?).bind fun y4=>
  (lV r3.1 y4).bind fun r5=>
  (fP r5.1).bind fun r6=>
  bif decide (r6.1>0) then
   (xK r5.1).bind fun r7=>
   bif r7.2.1 != 0 then
    some (.inl ([],[],r7.2.1,()))
   else
    chk (decide (((B.length)+1)*32<=140737488355328)&&decide ((B.length)+1<=maxLen)) <|
    again (A,B++[(y2.1,r7.1,y2.2.2.2.2.2.1)],C,D,w64 (E+1),F,())
  else
   again (A,B,C,D,w64 (E+1),F,())
 else
  some (.inr (A,B,()))
def xJ (a0:List bw) (a1:List aj):Option ((List ff)×(List bw)×Int×Unit):=
 (uT a0).bind fun r1=>
 bif r1.1 != 0 then
  some ([],[],r1.1,())
 else
  (uU a1).bind fun r2=>
  bif r2.1 != 0 then
   some ([],[],r2.1,())
  else
   chk (decide (0<=(0:Int))&&decide ((0:Int)<=((a1.length:Int)))&&decide ((8:Int)*((a1.length:Int))<=281474976710656)&&decide (((a1.length:Int))<=9223372036854775807)) <|
   chk (decide (0<=((a1.length:Int)))&&decide (((a1.length:Int))<=((a1.length:Int)))&&decide ((32:Int)*((a1.length:Int))<=281474976710656)&&decide (((a1.length:Int))<=9223372036854775807)) <|
   aG (
    iter (X:=tg) (β:=Dd) (a0.length+(List.length ([]:List Int)+(a1.length+(Int.natAbs ((a1.length:Int))+(Int.natAbs (0:Int)+(a1.length+(List.length ((List.replicate (Int.toNat ((a1.length:Int))) (false,[])):List au)+2))))))) (a0,[],a1,(a1.length:Int),0,a1,List.replicate (Int.toNat ((a1.length:Int))) (false,[]),()) (yC)) fun (A,B,C,D,_)=>
   (lX B C).bind fun r8=>
   aG (
    iter (X:=tj) (β:=De) (r8.1.length+(List.length ([]:List bw)+(A.length+(Int.natAbs ((A.length:Int))+(Int.natAbs (0:Int)+(C.length+(D.length+2))))))) (r8.1,[],A,(A.length:Int),0,C,D,()) (yD)) fun (E,F,G,_)=>
   aG (
    iter (X:=tu) (β:=Dh) (E.length+(List.length ([]:List ff)+(F.length+(Int.natAbs ((F.length:Int))+(Int.natAbs (0:Int)+(G.length+2)))))) (E,[],F,(F.length:Int),0,G,()) (yF)) fun v35=>
   some (v35.2.1,v35.1,0,())
end Go.Md
namespace Go.Md
open Go.Dn
def iJ (s:Bys) (c:Int):Option (Int×Unit):=some (Lib.indexByte s c.toNat.toUInt8,())
noncomputable section
abbrev ng:Ty:=(.st (.pair tI (.pair tI tI)))
abbrev Wp:Type:=Int×Int×Int
abbrev YV:Ty:=(.st (.pair .bool (.pair .bool (.pair .bool (.pair .bool (.pair .bool .bool))))))
abbrev Xh:Type:=Bool×Bool×Bool×Bool×Bool×Bool
abbrev jN:Ty:=(.st (.pair tI (.pair .str (.pair aC (.pair .str (.pair aC tI))))))
abbrev aT:Type:=Int×Bys×ah×Bys×ah×Int
abbrev bh:Ty:=(.st (.pair tI (.pair tI (.pair tI (.pair tI (.pair tI (.pair .str (.pair aC (.pair .str (.pair aC (.pair tI tI)))))))))))
abbrev aa:Type:=Int×Int×Int×Int×Int×Bys×ah×Bys×ah×Int×Int
abbrev bJ:Ty:=(.st (.pair .str (.pair .str (.pair .str (.pair tI (.pair tI (.slice jN)))))))
abbrev ai:Type:=Bys×Bys×Bys×Int×Int×(List aT)
abbrev bP:Ty:=(.st (.pair tI (.pair .str (.pair .str (.pair tI (.pair tI (.pair tI (.pair tI (.pair aC (.pair tI (.pair tI ng)))))))))))
abbrev bf:Type:=Int×Bys×Bys×Int×Int×Int×Int×ah×Int×Int×Wp
abbrev eW:Ty:=(.st (.pair tI aU))
abbrev bn:Type:=Int×aj
def yA (a0:ai) (a1:Int):Option (Int×Unit):=
 (idx a0.2.2.2.2.2 a1).bind fun y1=>
 (b8 y1.1 1 99999).bind fun r2=>
 bif r2.1 then
  some (1,())
 else
  (
   bif decide (a1>0) then
    Option.bind (idx a0.2.2.2.2.2 (w64 (a1 - 1))) fun y3=>
    some (decide (y1.1<=y3.1),())
   else
    some (false,())).bind fun v4=>
  bif v4.1 then
   some (8,())
  else
   (bZ y1.2.1).bind fun r5=>
   bif !r5.1 then
    some (5,())
   else
    (cZ y1.2.2.1 false).bind fun r6=>
    bif r6.1 != 0 then
     some (r6.1,())
    else
     (bZ y1.2.2.2.1).bind fun r7=>
     bif !r7.1 then
      some (5,())
     else
      (lC y1.2.2.2.2.1).bind fun r8=>
      bif r8.1 != 0 then
       some (r8.1,())
      else
       (b8 y1.2.2.2.2.2 a0.2.2.2.1 3652059).bind fun r9=>
       bif r9.1 then
        some (1,())
       else
        some (0,())
abbrev pZ:Type:=Int×Int×Bys×Bys×Bys×Int×Int×(List aT)×Unit
abbrev pY:Type:=((Int×Unit) ⊕ Unit)
def pX (x1:pZ) (again:pZ->Option pY):Option pY:=
 match x1 with
 | (A,B,C,D,E,F,G,H,_)=>
 bif decide (B<A) then
  (yA (C,D,E,F,G,H) B).bind fun r2=>
  bif r2.1 != 0 then
   some (.inl (r2.1,()))
  else
   again (A,w64 (B+1),C,D,E,F,G,H,())
 else
  some (.inr ())
def jt (a0:ai):Option (Int×Unit):=
 (bZ a0.1).bind fun r1=>
 bif !r1.1 then
  some (5,())
 else
  (bZ a0.2.1).bind fun r2=>
  bif !r2.1 then
   some (5,())
  else
   (bZ a0.2.2.1).bind fun r3=>
   bif !r3.1 then
    some (5,())
   else
    bif a0.2.1==a0.2.2.1 then
     some (12,())
    else
     (oc a0.2.2.2.1).bind fun r4=>
     bif !r4.1 then
      some (1,())
     else
      (b8 a0.2.2.2.2.1 0 1000).bind fun r5=>
      bif r5.1 then
       some (1,())
      else
       bif ((a0.2.2.2.2.2.length:Int))==0 then
        some (9,())
       else
        bif decide (((a0.2.2.2.2.2.length:Int))>500) then
         some (2,())
        else
         aG (
          iter (X:=pZ) (β:=pY) (Int.natAbs ((a0.2.2.2.2.2.length:Int))+(Int.natAbs (0:Int)+(a0.1.length+(a0.2.1.length+(a0.2.2.1.length+(a0.2.2.2.1.natAbs+(a0.2.2.2.2.1.natAbs+(a0.2.2.2.2.2.length+2)))))))) ((a0.2.2.2.2.2.length:Int),0,a0.1,a0.2.1,a0.2.2.1,a0.2.2.2.1,a0.2.2.2.2.1,a0.2.2.2.2.2,()) (pX)) fun _=>
         some (0,())
def s5 (a0:Int):Option (Bool×Unit):=
 bif a0==5 then
  some (true,())
 else
  bif a0==6 then
   some (true,())
  else
   bif a0==7 then
    some (true,())
   else
    some (a0==9,())
def C9 (a0:Int):Option (Xh×Unit):=
 bif a0==1 then
  some ((true,true,true,true,true,false),())
 else
  bif a0==3 then
   some ((false,false,false,false,true,false),())
  else
   bif a0==4 then
    some ((false,false,false,true,false,false),())
   else
    bif a0==5 then
     bif a0==5 then
      some ((false,false,false,false,false,true),())
     else
      bif a0==7 then
       some ((false,true,false,false,true,false),())
      else
       some ((false,true,false,false,false,false),())
    else
     bif a0==6 then
      bif a0==6 then
       some ((false,false,false,false,false,true),())
      else
       bif a0==7 then
        some ((false,true,false,false,true,false),())
       else
        some ((false,true,false,false,false,false),())
     else
      bif a0==8 then
       some ((false,false,false,false,false,true),())
      else
       bif a0==7 then
        some ((false,true,false,false,true,false),())
       else
        some ((false,true,false,false,false,false),())
def yB (a0:aa):Option (Int×Unit):=
 (C9 a0.2.2.2.1).bind fun r1=>
 aG (γ:=(Int×Int×Int×Int×Int×Bys×Int×Int×Bys×Int×Int×Int×Int×Bool×Bool×Bool×Bool×Bool×Bool×Unit)) (
  bif r1.1.2.1 then
   (cZ a0.2.2.2.2.2.2.1 (a0.2.2.2.1==2)).bind fun r2=>
   bif r2.1 != 0 then
    some (.inl (r2.1,()))
   else
    some (.inr (a0.1,a0.2.1,a0.2.2.1,a0.2.2.2.1,a0.2.2.2.2.1,a0.2.2.2.2.2.1,a0.2.2.2.2.2.2.1.1,a0.2.2.2.2.2.2.1.2,a0.2.2.2.2.2.2.2.1,a0.2.2.2.2.2.2.2.2.1.1,a0.2.2.2.2.2.2.2.2.1.2,a0.2.2.2.2.2.2.2.2.2.1,a0.2.2.2.2.2.2.2.2.2.2,r1.1.1,r1.1.2.1,r1.1.2.2.1,r1.1.2.2.2.1,r1.1.2.2.2.2.1,r1.1.2.2.2.2.2,()))
  else
   some (.inr (a0.1,a0.2.1,a0.2.2.1,a0.2.2.2.1,a0.2.2.2.2.1,a0.2.2.2.2.2.1,a0.2.2.2.2.2.2.1.1,a0.2.2.2.2.2.2.1.2,a0.2.2.2.2.2.2.2.1,a0.2.2.2.2.2.2.2.2.1.1,a0.2.2.2.2.2.2.2.2.1.2,a0.2.2.2.2.2.2.2.2.2.1,a0.2.2.2.2.2.2.2.2.2.2,r1.1.1,r1.1.2.1,r1.1.2.2.1,r1.1.2.2.2.1,r1.1.2.2.2.2.1,r1.1.2.2.2.2.2,()))) fun (A,B,C,D,E,F,G,H,I,J,K,L,M,N,O,P,Q,R,S,_)=>
 aG (γ:=(Int×Int×Int×Int×Int×Bys×Int×Int×Bys×Int×Int×Int×Int×Bool×Bool×Bool×Bool×Bool×Bool×Unit)) (
  bif Q then
   (lC (J,K)).bind fun r4=>
   bif r4.1 != 0 then
    some (.inl (r4.1,()))
   else
    some (.inr (A,B,C,D,E,F,G,H,I,J,K,L,M,N,O,P,Q,R,S,()))
  else
   some (.inr (A,B,C,D,E,F,G,H,I,J,K,L,M,N,O,P,Q,R,S,()))) fun (_,_,_,_,_,T,U,V,W,X,Y,Z,A0,B0,C0,D0,E0,F0,G0,_)=>
 (
  bif F0 then
   Option.bind (oc Z) fun r6=>
   some (!r6.1,())
  else
   some (false,())).bind fun v7=>
 bif v7.1 then
  some (1,())
 else
  (
   bif B0 then
    Option.bind (bZ T) fun r8=>
    bif !r8.1 then
     some (true,())
    else
     bif D0 then
      Option.bind (bZ W) fun r9=>
      some (!r9.1,())
     else
      some (false,())
   else
    bif D0 then
     Option.bind (bZ W) fun r10=>
     some (!r10.1,())
    else
     some (false,())).bind fun v11=>
  bif v11.1 then
   some (5,())
  else
   (
    bif G0 then
     Option.bind (b8 A0 1 2000) fun r12=>
     some (r12.1,())
    else
     some (false,())).bind fun v13=>
   bif v13.1 then
    some (1,())
   else
    (
     bif !B0 then
      bif !(T==[]) then
       some (true,())
      else
       bif !C0 then
        bif !((U==0)&&((V==0)&&true)) then
         some (true,())
        else
         bif !D0 then
          bif !(W==[]) then
           some (true,())
          else
           bif !E0 then
            bif !((X==0)&&((Y==0)&&true)) then
             some (true,())
            else
             bif !F0 then
              bif Z != 0 then
               some (true,())
              else
               bif !G0 then
                some (A0 != 0,())
               else
                some (false,())
             else
              bif !G0 then
               some (A0 != 0,())
              else
               some (false,())
           else
            bif !F0 then
             bif Z != 0 then
              some (true,())
             else
              bif !G0 then
               some (A0 != 0,())
              else
               some (false,())
            else
             bif !G0 then
              some (A0 != 0,())
             else
              some (false,())
         else
          bif !E0 then
           bif !((X==0)&&((Y==0)&&true)) then
            some (true,())
           else
            bif !F0 then
             bif Z != 0 then
              some (true,())
             else
              bif !G0 then
               some (A0 != 0,())
              else
               some (false,())
            else
             bif !G0 then
              some (A0 != 0,())
             else
              some (false,())
          else
           bif !F0 then
            bif Z != 0 then
             some (true,())
            else
             bif !G0 then
              some (A0 != 0,())
             else
              some (false,())
           else
            bif !G0 then
             some (A0 != 0,())
            else
             some (false,())
       else
        bif !D0 then
         bif !(W==[]) then
          some (true,())
         else
          bif !E0 then
           bif !((X==0)&&((Y==0)&&true)) then
            some (true,())
           else
            bif !F0 then
             bif Z != 0 then
              some (true,())
             else
              bif !G0 then
               some (A0 != 0,())
              else
               some (false,())
            else
             bif !G0 then
              some (A0 != 0,())
             else
              some (false,())
          else
           bif !F0 then
            bif Z != 0 then
             some (true,())
            else
             bif !G0 then
              some (A0 != 0,())
             else
              some (false,())
           else
            bif !G0 then
             some (A0 != 0,())
            else
             some (false,())
        else
         bif !E0 then
          bif !((X==0)&&((Y==0)&&true)) then
           some (true,())
          else
           bif !F0 then
            bif Z != 0 then
             some (true,())
            else
             bif !G0 then
              some (A0 != 0,())
             else
              some (false,())
           else
            bif !G0 then
             some (A0 != 0,())
            else
             some (false,())
         else
          bif !F0 then
           bif Z != 0 then
            some (true,())
           else
            bif !G0 then
             some (A0 != 0,())
            else
             some (false,())
          else
           bif !G0 then
            some (A0 != 0,())
           else
            some (false,())
     else
      bif !C0 then
       bif !((U==0)&&((V==0)&&true)) then
        some (true,())
       else
        bif !D0 then
         bif !(W==[]) then
          some (true,())
         else
          bif !E0 then
           bif !((X==0)&&((Y==0)&&true)) then
            some (true,())
           else
            bif !F0 then
             bif Z != 0 then
              some (true,())
             else
              bif !G0 then
               some (A0 != 0,())
              else
               some (false,())
            else
             bif !G0 then
              some (A0 != 0,())
             else
              some (false,())
          else
           bif !F0 then
            bif Z != 0 then
             some (true,())
            else
             bif !G0 then
              some (A0 != 0,())
             else
              some (false,())
           else
            bif !G0 then
             some (A0 != 0,())
            else
             some (false,())
        else
         bif !E0 then
          bif !((X==0)&&((Y==0)&&true)) then
           some (true,())
          else
           bif !F0 then
            bif Z != 0 then
             some (true,())
            else
             bif !G0 then
              some (A0 != 0,())
             else
              some (false,())
           else
            bif !G0 then
             some (A0 != 0,())
            else
             some (false,())
         else
          bif !F0 then
           bif Z != 0 then
            some (true,())
           else
            bif !G0 then
             some (A0 != 0,())
            else
             some (false,())
          else
           bif !G0 then
            some (A0 != 0,())
           else
            some (false,())
      else
       bif !D0 then
        bif !(W==[]) then
         some (true,())
        else
         bif !E0 then
          bif !((X==0)&&((Y==0)&&true)) then
           some (true,())
          else
           bif !F0 then
            bif Z != 0 then
             some (true,())
            else
             bif !G0 then
              some (A0 != 0,())
             else
              some (false,())
           else
            bif !G0 then
             some (A0 != 0,())
            else
             some (false,())
         else
          bif !F0 then
           bif Z != 0 then
            some (true,())
           else
            bif !G0 then
             some (A0 != 0,())
            else
             some (false,())
          else
           bif !G0 then
            some (A0 != 0,())
           else
            some (false,())
       else
        bif !E0 then
         bif !((X==0)&&((Y==0)&&true)) then
          some (true,())
         else
          bif !F0 then
           bif Z != 0 then
            some (true,())
           else
            bif !G0 then
             some (A0 != 0,())
            else
             some (false,())
          else
           bif !G0 then
            some (A0 != 0,())
           else
            some (false,())
        else
         bif !F0 then
          bif Z != 0 then
           some (true,())
          else
           bif !G0 then
            some (A0 != 0,())
           else
            some (false,())
         else
          bif !G0 then
           some (A0 != 0,())
          else
           some (false,())).bind fun v14=>
    bif v14.1 then
     some (3,())
    else
     some (0,())
def yz (a0:aa):Option (Int×Unit):=
 (oc a0.1).bind fun r1=>
 bif !r1.1 then
  some (1,())
 else
  (b8 a0.2.1 1 2).bind fun r2=>
  bif r2.1 then
   some (4,())
  else
   (b8 a0.2.2.1 1 2000).bind fun r3=>
   bif r3.1 then
    some (1,())
   else
    (b8 a0.2.2.2.1 1 11).bind fun r4=>
    bif r4.1 then
     some (4,())
    else
     (s5 a0.2.2.2.1).bind fun r5=>
     bif !(r5.1==(a0.2.1==2)) then
      some (4,())
     else
      (b8 a0.2.2.2.2.1 1 99999).bind fun r6=>
      bif r6.1 then
       some (1,())
      else
       (yB a0).bind fun r7=>
       some (r7.1,())
abbrev oJ:Type:=Int×Int×(List Int)×Unit
abbrev oI:Type:=((Int×Unit) ⊕ Unit)
def vk (x1:oJ) (again:oJ->Option oI):Option oI:=
 bif decide (x1.2.1<x1.1) then
  chk (decide (0<=x1.2.1)&&decide (x1.2.1<(x1.2.2.1.length:Int))) <|
  (x1.2.2.1[x1.2.1.toNat]?).bind fun y2=>
  bif y2 != 0 then
   some (.inl (y2,()))
  else
   again (x1.1,w64 (x1.2.1+1),x1.2.2.1,())
 else
  some (.inr ())
def om (a0:aa) (a1:aa):Option (Int×Unit):=
 aG (
  iter (X:=oJ) (β:=oI) (Int.natAbs ((List.length [(w64 (a0.1 - a1.1)),(w64 (a0.2.1 - a1.2.1)),(w64 (a0.2.2.1 - a1.2.2.1))]:Int))+(Int.natAbs (0:Int)+(List.length ([(w64 (a0.1 - a1.1)),(w64 (a0.2.1 - a1.2.1)),(w64 (a0.2.2.1 - a1.2.2.1))]:List Int)+2))) ((List.length [(w64 (a0.1 - a1.1)),(w64 (a0.2.1 - a1.2.1)),(w64 (a0.2.2.1 - a1.2.2.1))]:Int),0,[(w64 (a0.1 - a1.1)),(w64 (a0.2.1 - a1.2.1)),(w64 (a0.2.2.1 - a1.2.2.1))],()) (vk)) fun _=>
 some (0,())
abbrev nB:Type:=(List aa)×(List aa)×Int×Int×Int×Int×Int×Unit
abbrev kC:Type:=((Int×Unit) ⊕ Unit)
def nA (x1:nB) (again:nB->Option kC):Option kC:=
 match x1 with
 | (A,B,C,D,E,F,G,_)=>
 bif decide (D<C) then
  (idx B D).bind fun y2=>
  (yz y2).bind fun r3=>
  bif r3.1 != 0 then
   some (.inl (r3.1,()))
  else
   (
    bif decide (D>0) then
     Option.bind (idx A (w64 (D - 1))) fun y4=>
     Option.bind (om y4 y2) fun r5=>
     some (decide (r5.1>=0),())
    else
     some (false,())).bind fun v6=>
   bif v6.1 then
    some (.inl (8,()))
   else
    bif y2.2.1==0 then
     bif y2.2.2.1 != (w64 (E+1)) then
      some (.inl (9,()))
     else
      bif y2.2.1==0 then
       again (A,B,C,w64 (D+1),y2.2.2.1,F,G,())
      else
       bif y2.2.1==1 then
        again (A,B,C,w64 (D+1),E,y2.2.2.1,G,())
       else
        bif y2.2.1==2 then
         again (A,B,C,w64 (D+1),E,F,y2.2.2.1,())
        else
         none
    else
     bif y2.2.1==1 then
      bif y2.2.2.1 != (w64 (F+1)) then
       some (.inl (9,()))
      else
       bif y2.2.1==0 then
        again (A,B,C,w64 (D+1),y2.2.2.1,F,G,())
       else
        bif y2.2.1==1 then
         again (A,B,C,w64 (D+1),E,y2.2.2.1,G,())
        else
         bif y2.2.1==2 then
          again (A,B,C,w64 (D+1),E,F,y2.2.2.1,())
         else
          none
     else
      bif y2.2.1==2 then
       bif y2.2.2.1 != (w64 (G+1)) then
        some (.inl (9,()))
       else
        bif y2.2.1==0 then
         again (A,B,C,w64 (D+1),y2.2.2.1,F,G,())
        else
         bif y2.2.1==1 then
          again (A,B,C,w64 (D+1),E,y2.2.2.1,G,())
         else
          bif y2.2.1==2 then
           again (A,B,C,w64 (D+1),E,F,y2.2.2.1,())
          else
           none
      else
       none
 else
  some (.inr ())
def nM (a0:List aa):Option (Int×Unit):=
 bif decide (((a0.length:Int))>2000) then
  some (2,())
 else
  aG (
   iter (X:=nB) (β:=kC) (a0.length+(a0.length+(Int.natAbs ((a0.length:Int))+(Int.natAbs (0:Int)+(Int.natAbs (0:Int)+(Int.natAbs (0:Int)+(Int.natAbs (0:Int)+2))))))) (a0,a0,(a0.length:Int),0,0,0,0,()) (nA)) fun _=>
  some (0,())
def xk (a0:ai) (a1:List aa):Option (Int×Unit):=
 (jt a0).bind fun r1=>
 bif r1.1 != 0 then
  some (r1.1,())
 else
  (nM a1).bind fun r2=>
  some (r2.1,())
def kO (a0:ah):Option (Int×Unit):=
 (EJ (w64 (3 - a0.2))).bind fun r1=>
 some (w64 (a0.1*r1.1),())
abbrev p9:Type:=(List aT)×Int×Int×Bys×Bys×Bys×Int×Int×(List aT)×(List aa)×(List ah)×(List bn)×Int×(List (Int×(Option Nat)))×(List bf)×Unit
abbrev wB:Type:=(((ai×(List aa)×(List (Int×(Option Nat)))×(List ah)×(List bn)×Int×Unit)×(List bf)×Unit) ⊕ (Bys×Bys×Bys×Int×Int×(List aT)×(List aa)×(List ah)×(List bn)×Int×(List (Int×(Option Nat)))×(List bf)×Unit))
def p8 (x1:p9) (again:p9->Option wB):Option wB:=
 match x1 with
 | (A,B,C,D,E,F,G,H,I,J,K,L,M,N,O,_)=>
 bif decide (C<B) then
  (idx A C).bind fun y2=>
  (kO y2.2.2.1).bind fun r3=>
  again (A,B,w64 (C+1),D,E,F,G,H,I,J,K,L,M,jG (k:=tI) (v:= .hnd) N y2.1 (some (O.length)),O++[(y2.1,y2.2.1,y2.2.2.2.1,r3.1,0,0,0,y2.2.2.2.2.1,y2.2.2.2.2.2,(-1),0,0,0)],())
 else
  some (.inr (D,E,F,G,H,I,J,K,L,M,N,O,()))
def mT (a0:ai) (a1:List aa) (a2:List bf):Option ((ai×(List aa)×(List (Int×(Option Nat)))×(List ah)×(List bn)×Int×Unit)×(List bf)×Unit):=
 aG (
  iter (X:=p9) (β:=wB) (a0.2.2.2.2.2.length+(Int.natAbs ((a0.2.2.2.2.2.length:Int))+(Int.natAbs (0:Int)+(a0.1.length+(a0.2.1.length+(a0.2.2.1.length+(a0.2.2.2.1.natAbs+(a0.2.2.2.2.1.natAbs+(a0.2.2.2.2.2.length+(a1.length+(List.length ([]:List ah)+(List.length ([]:List bn)+(Int.natAbs (0:Int)+(List.length ([]:List (Int×(Option Nat)))+(a2.length+2))))))))))))))) (a0.2.2.2.2.2,(a0.2.2.2.2.2.length:Int),0,a0.1,a0.2.1,a0.2.2.1,a0.2.2.2.1,a0.2.2.2.2.1,a0.2.2.2.2.2,a1,[],[],0,[],a2,()) (p8)) fun (A,B,C,D,E,F,G,H,I,J,K,L,_)=>
 some (((A,B,C,D,E,F),G,K,H,I,J,()),L,())
def sY (a0:ai×(List aa)×(List (Int×(Option Nat)))×(List ah)×(List bn)×Int×Unit) (a1:Int) (a2:List bf):Option (Int×(ai×(List aa)×(List (Int×(Option Nat)))×(List ah)×(List bn)×Int×Unit)×(List bf)×Unit):=
 (idx a0.2.1 a1).bind fun y1=>
 bif !(Option.isNone (Option.getD (α:=Option Nat) (dN (k:=tI) (v:= .hnd) a0.2.2.1 y1.2.2.2.2.1) none)) then
  some (7,(a0.1,a0.2.1,a0.2.2.1,a0.2.2.2.1,a0.2.2.2.2.1,a0.2.2.2.2.2.1,()),a2,())
 else
  bif decide (((a0.2.2.1.length:Int))>=500) then
   some (16,(a0.1,a0.2.1,a0.2.2.1,a0.2.2.2.1,a0.2.2.2.2.1,a0.2.2.2.2.2.1,()),a2,())
  else
   bif decide (y1.2.2.2.2.2.2.2.2.2.1<a0.1.2.2.2.1) then
    some (1,(a0.1,a0.2.1,a0.2.2.1,a0.2.2.2.1,a0.2.2.2.2.1,a0.2.2.2.2.2.1,()),a2,())
   else
    some (0,(a0.1,a0.2.1,jG (k:=tI) (v:= .hnd) a0.2.2.1 y1.2.2.2.2.1 (some (a2.length)),a0.2.2.2.1,a0.2.2.2.2.1,a0.2.2.2.2.2.1,()),a2++[(y1.2.2.2.2.1,y1.2.2.2.2.2.1,y1.2.2.2.2.2.2.2.1,0,0,0,0,y1.2.2.2.2.2.2.2.2.1,y1.2.2.2.2.2.2.2.2.2.1,a1,0,0,0)],())
def rD (a0:ai×(List aa)×(List (Int×(Option Nat)))×(List ah)×(List bn)×Int×Unit) (a1:Option Nat) (a2:Int) (a3:List bf):Option (Int×(ai×(List aa)×(List (Int×(Option Nat)))×(List ah)×(List bn)×Int×Unit)×(List bf)×Unit):=
 (idx a0.2.1 a2).bind fun y1=>
 (
  bif y1.2.2.2.1==3 then
   some (decide (y1.2.2.2.2.2.2.2.2.2.1<a0.1.2.2.2.1),())
  else
   some (false,())).bind fun v2=>
 bif v2.1 then
  some (1,(a0.1,a0.2.1,a0.2.2.1,a0.2.2.2.1,a0.2.2.2.2.1,a0.2.2.2.2.2.1,()),a3,())
 else
  (a1).bind fun h3=>
  (a3[h3]?).bind fun y4=>
  bif decide (y4.2.2.2.2.2.2.2.2.2.1>=0) then
   some (11,(a0.1,a0.2.1,a0.2.2.1,a0.2.2.2.1,a0.2.2.2.2.1,a0.2.2.2.2.2.1,()),a3,())
  else
   (a1).bind fun h5=>
   (a3[h5]?).bind fun y6=>
   some (0,(a0.1,a0.2.1,a0.2.2.1,a0.2.2.2.1,a0.2.2.2.2.1,a0.2.2.2.2.2.1,()),List.set a3 h5 (y6.1,y6.2.1,y6.2.2.1,y6.2.2.2.1,y6.2.2.2.2.1,y6.2.2.2.2.2.1,y6.2.2.2.2.2.2.1,y6.2.2.2.2.2.2.2.1,y6.2.2.2.2.2.2.2.2.1,a2,y6.2.2.2.2.2.2.2.2.2.2),())
def oK (a0:ai×(List aa)×(List (Int×(Option Nat)))×(List ah)×(List bn)×Int×Unit) (a1:Option Nat) (a2:aa) (a3:List bf):Option (Int×(ai×(List aa)×(List (Int×(Option Nat)))×(List ah)×(List bn)×Int×Unit)×(List bf)×Unit):=
 (a1).bind fun h1=>
 (a3[h1]?).bind fun y2=>
 bif decide (y2.2.2.2.2.2.2.2.2.2.1<0) then
  some (5,(a0.1,a0.2.1,a0.2.2.1,a0.2.2.2.1,a0.2.2.2.2.1,a0.2.2.2.2.2.1,()),a3,())
 else
  (a1).bind fun h3=>
  (a3[h3]?).bind fun y4=>
  (idx a0.2.1 y4.2.2.2.2.2.2.2.2.2.1).bind fun y5=>
  bif y5.2.2.1 != a2.2.2.2.2.2.2.2.2.2.2 then
   some (5,(a0.1,a0.2.1,a0.2.2.1,a0.2.2.2.1,a0.2.2.2.2.1,a0.2.2.2.2.2.1,()),a3,())
  else
   (a1).bind fun h6=>
   (a3[h6]?).bind fun y7=>
   (idx a0.2.1 y7.2.2.2.2.2.2.2.2.2.1).bind fun y8=>
   bif a2.2.2.2.1==5 then
    bif y8.2.2.2.1==2 then
     (kO y8.2.2.2.2.2.2.1).bind fun r9=>
     (a1).bind fun h10=>
     (a3[h10]?).bind fun y11=>
     (a1).bind fun h12=>
     (a3[h12]?).bind fun y13=>
     bif decide (r9.1<(w64 (y11.2.2.2.2.1 - y13.2.2.2.2.2.2.1))) then
      some (12,(a0.1,a0.2.1,a0.2.2.1,a0.2.2.2.1,a0.2.2.2.2.1,a0.2.2.2.2.2.1,()),a3,())
     else
      (kO y8.2.2.2.2.2.2.1).bind fun r14=>
      (a1).bind fun h15=>
      (a3[h15]?).bind fun y16=>
      (a1).bind fun h17=>
      ((List.set a3 h15 (y16.1,y16.2.1,y16.2.2.1,r14.1,y16.2.2.2.2))[h17]?).bind fun y18=>
      some (0,(a0.1,a0.2.1,a0.2.2.1,a0.2.2.2.1,a0.2.2.2.2.1,a0.2.2.2.2.2.1,()),List.set (List.set a3 h15 (y16.1,y16.2.1,y16.2.2.1,r14.1,y16.2.2.2.2)) h17 (y18.1,y18.2.1,y18.2.2.1,y18.2.2.2.1,y18.2.2.2.2.1,y18.2.2.2.2.2.1,y18.2.2.2.2.2.2.1,y18.2.2.2.2.2.2.2.1,y18.2.2.2.2.2.2.2.2.1,(-1),y18.2.2.2.2.2.2.2.2.2.2),())
    else
     bif y8.2.2.2.1==1 then
      (kO y8.2.2.2.2.2.2.1).bind fun r19=>
      (a1).bind fun h20=>
      (a3[h20]?).bind fun y21=>
      (a1).bind fun h22=>
      ((List.set a3 h20 (y21.1,y21.2.1,y21.2.2.1,r19.1,y21.2.2.2.2))[h22]?).bind fun y23=>
      some (0,(a0.1,a0.2.1,a0.2.2.1,a0.2.2.2.1,a0.2.2.2.2.1,a0.2.2.2.2.2.1,()),List.set (List.set a3 h20 (y21.1,y21.2.1,y21.2.2.1,r19.1,y21.2.2.2.2)) h22 (y23.1,y23.2.1,y23.2.2.1,y23.2.2.2.1,y23.2.2.2.2.1,y23.2.2.2.2.2.1,y23.2.2.2.2.2.2.1,y23.2.2.2.2.2.2.2.1,y23.2.2.2.2.2.2.2.2.1,(-1),y23.2.2.2.2.2.2.2.2.2.2),())
     else
      bif y8.2.2.2.1==3 then
       (a1).bind fun h24=>
       (a3[h24]?).bind fun y25=>
       (a1).bind fun h26=>
       ((List.set a3 h24 (y25.1,y25.2.1,y25.2.2.1,y25.2.2.2.1,y25.2.2.2.2.1,y25.2.2.2.2.2.1,y25.2.2.2.2.2.2.1,y25.2.2.2.2.2.2.2.1,y8.2.2.2.2.2.2.2.2.2.1,y25.2.2.2.2.2.2.2.2.2))[h26]?).bind fun y27=>
       some (0,(a0.1,a0.2.1,a0.2.2.1,a0.2.2.2.1,a0.2.2.2.2.1,a0.2.2.2.2.2.1,()),List.set (List.set a3 h24 (y25.1,y25.2.1,y25.2.2.1,y25.2.2.2.1,y25.2.2.2.2.1,y25.2.2.2.2.2.1,y25.2.2.2.2.2.2.1,y25.2.2.2.2.2.2.2.1,y8.2.2.2.2.2.2.2.2.2.1,y25.2.2.2.2.2.2.2.2.2)) h26 (y27.1,y27.2.1,y27.2.2.1,y27.2.2.2.1,y27.2.2.2.2.1,y27.2.2.2.2.2.1,y27.2.2.2.2.2.2.1,y27.2.2.2.2.2.2.2.1,y27.2.2.2.2.2.2.2.2.1,(-1),y27.2.2.2.2.2.2.2.2.2.2),())
      else
       (a1).bind fun h28=>
       (a3[h28]?).bind fun y29=>
       (a1).bind fun h30=>
       ((List.set a3 h28 (y29.1,y29.2.1,y29.2.2.1,y29.2.2.2.1,y29.2.2.2.2.1,y29.2.2.2.2.2.1,y29.2.2.2.2.2.2.1,y8.2.2.2.2.2.2.2.2.1,y29.2.2.2.2.2.2.2.2))[h30]?).bind fun y31=>
       some (0,(a0.1,a0.2.1,a0.2.2.1,a0.2.2.2.1,a0.2.2.2.2.1,a0.2.2.2.2.2.1,()),List.set (List.set a3 h28 (y29.1,y29.2.1,y29.2.2.1,y29.2.2.2.1,y29.2.2.2.2.1,y29.2.2.2.2.2.1,y29.2.2.2.2.2.2.1,y8.2.2.2.2.2.2.2.2.1,y29.2.2.2.2.2.2.2.2)) h30 (y31.1,y31.2.1,y31.2.2.1,y31.2.2.2.1,y31.2.2.2.2.1,y31.2.2.2.2.2.1,y31.2.2.2.2.2.2.1,y31.2.2.2.2.2.2.2.1,y31.2.2.2.2.2.2.2.2.1,(-1),y31.2.2.2.2.2.2.2.2.2.2),())
   else
    (a1).bind fun h32=>
    (a3[h32]?).bind fun y33=>
    some (0,(a0.1,a0.2.1,a0.2.2.1,a0.2.2.2.1,a0.2.2.2.2.1,a0.2.2.2.2.2.1,()),List.set a3 h32 (y33.1,y33.2.1,y33.2.2.1,y33.2.2.2.1,y33.2.2.2.2.1,y33.2.2.2.2.2.1,y33.2.2.2.2.2.2.1,y33.2.2.2.2.2.2.2.1,y33.2.2.2.2.2.2.2.2.1,(-1),y33.2.2.2.2.2.2.2.2.2.2),())
def mG (a0:Option Nat) (a1:List bf):Option (Int×Unit):=
 (a0).bind fun h1=>
 (a1[h1]?).bind fun y2=>
 (a0).bind fun h3=>
 (a1[h3]?).bind fun y4=>
 (a0).bind fun h5=>
 (a1[h5]?).bind fun y6=>
 some (if (w64 ((w64 (y2.2.2.2.1 - y4.2.2.2.2.1))+y6.2.2.2.2.2.2.1))>0 then (w64 ((w64 (y2.2.2.2.1 - y4.2.2.2.2.1))+y6.2.2.2.2.2.2.1)) else 0,())
def nV (a0:ai×(List aa)×(List (Int×(Option Nat)))×(List ah)×(List bn)×Int×Unit) (a1:Option Nat) (a2:aa) (a3:List bf):Option (Int×(ai×(List aa)×(List (Int×(Option Nat)))×(List ah)×(List bn)×Int×Unit)×(List bf)×Unit):=
 bif decide (a2.2.2.2.2.2.2.2.2.2.1<a0.1.2.2.2.1) then
  some (1,(a0.1,a0.2.1,a0.2.2.1,a0.2.2.2.1,a0.2.2.2.2.1,a0.2.2.2.2.2.1,()),a3,())
 else
  (a1).bind fun h1=>
  (a3[h1]?).bind fun y2=>
  bif decide (y2.2.2.2.2.2.2.2.2.2.1>=0) then
   some (11,(a0.1,a0.2.1,a0.2.2.1,a0.2.2.2.1,a0.2.2.2.2.1,a0.2.2.2.2.2.1,()),a3,())
  else
   (mG a1 a3).bind fun r3=>
   bif r3.1==0 then
    some (11,(a0.1,a0.2.1,a0.2.2.1,a0.2.2.2.1,a0.2.2.2.2.1,a0.2.2.2.2.2.1,()),a3,())
   else
    (kO a2.2.2.2.2.2.2.1).bind fun r4=>
    (mG a1 a3).bind fun r5=>
    bif decide (r4.1>r5.1) then
     some (12,(a0.1,a0.2.1,a0.2.2.1,a0.2.2.2.1,a0.2.2.2.2.1,a0.2.2.2.2.2.1,()),a3,())
    else
     some (0,(a0.1,a0.2.1,a0.2.2.1,a0.2.2.2.1,a0.2.2.2.2.1,a0.2.2.2.2.2.1,()),a3,())
def rC (a0:ai×(List aa)×(List (Int×(Option Nat)))×(List ah)×(List bn)×Int×Unit) (a1:Option Nat) (a2:aa) (a3:List bf):Option (Int×(ai×(List aa)×(List (Int×(Option Nat)))×(List ah)×(List bn)×Int×Unit)×(List bf)×Unit):=
 (a1).bind fun h1=>
 (a3[h1]?).bind fun y2=>
 bif decide (y2.2.2.2.2.2.2.2.2.2.1>=0) then
  some (11,(a0.1,a0.2.1,a0.2.2.1,a0.2.2.2.1,a0.2.2.2.2.1,a0.2.2.2.2.2.1,()),a3,())
 else
  (a1).bind fun h3=>
  (a3[h3]?).bind fun y4=>
  bif y4.2.2.2.2.2.2.2.2.2.2.1==0 then
   some (5,(a0.1,a0.2.1,a0.2.2.1,a0.2.2.2.1,a0.2.2.2.2.1,a0.2.2.2.2.2.1,()),a3,())
  else
   (a1).bind fun h5=>
   (a3[h5]?).bind fun y6=>
   bif y6.2.2.2.2.2.2.2.2.2.2.1 != a2.2.2.2.2.2.2.2.2.2.2 then
    some (5,(a0.1,a0.2.1,a0.2.2.1,a0.2.2.2.1,a0.2.2.2.2.1,a0.2.2.2.2.2.1,()),a3,())
   else
    (a1).bind fun h7=>
    (a3[h7]?).bind fun y8=>
    (a1).bind fun h9=>
    (a3[h9]?).bind fun y10=>
    (a1).bind fun h11=>
    (a3[h11]?).bind fun y12=>
    (a1).bind fun h13=>
    (a3[h13]?).bind fun y14=>
    (a1).bind fun h15=>
    (a3[h15]?).bind fun y16=>
    (a1).bind fun h17=>
    ((List.set a3 h15 (y16.1,y16.2.1,y16.2.2.1,w64 ((w64 (y8.2.2.2.2.1 - y10.2.2.2.2.2.2.1))+y12.2.2.2.2.2.2.2.2.2.2.2.1),y16.2.2.2.2))[h17]?).bind fun y18=>
    (a1).bind fun h19=>
    ((List.set (List.set a3 h15 (y16.1,y16.2.1,y16.2.2.1,w64 ((w64 (y8.2.2.2.2.1 - y10.2.2.2.2.2.2.1))+y12.2.2.2.2.2.2.2.2.2.2.2.1),y16.2.2.2.2)) h17 (y18.1,y18.2.1,y18.2.2.1,y18.2.2.2.1,y18.2.2.2.2.1,y18.2.2.2.2.2.1,y18.2.2.2.2.2.2.1,y18.2.2.2.2.2.2.2.1,y14.2.2.2.2.2.2.2.2.2.2.2.2,y18.2.2.2.2.2.2.2.2.2))[h19]?).bind fun y20=>
    some (0,(a0.1,a0.2.1,a0.2.2.1,a0.2.2.2.1,a0.2.2.2.2.1,a0.2.2.2.2.2.1,()),List.set (List.set (List.set a3 h15 (y16.1,y16.2.1,y16.2.2.1,w64 ((w64 (y8.2.2.2.2.1 - y10.2.2.2.2.2.2.1))+y12.2.2.2.2.2.2.2.2.2.2.2.1),y16.2.2.2.2)) h17 (y18.1,y18.2.1,y18.2.2.1,y18.2.2.2.1,y18.2.2.2.2.1,y18.2.2.2.2.2.1,y18.2.2.2.2.2.2.1,y18.2.2.2.2.2.2.2.1,y14.2.2.2.2.2.2.2.2.2.2.2.2,y18.2.2.2.2.2.2.2.2.2)) h19 (y20.1,y20.2.1,y20.2.2.1,y20.2.2.2.1,y20.2.2.2.2.1,y20.2.2.2.2.2.1,y20.2.2.2.2.2.2.1,y20.2.2.2.2.2.2.2.1,y20.2.2.2.2.2.2.2.2.1,y20.2.2.2.2.2.2.2.2.2.1,0,0,0),())
def rB (a0:ai×(List aa)×(List (Int×(Option Nat)))×(List ah)×(List bn)×Int×Unit) (a1:Option Nat) (a2:aa) (a3:List bf):Option (Int×(ai×(List aa)×(List (Int×(Option Nat)))×(List ah)×(List bn)×Int×Unit)×(List bf)×Unit):=
 (kO a2.2.2.2.2.2.2.1).bind fun r1=>
 bif a2.2.2.2.1==9 then
  (a1).bind fun h2=>
  (a3[h2]?).bind fun y3=>
  (a1).bind fun h4=>
  (a3[h4]?).bind fun y5=>
  (a1).bind fun h6=>
  (a3[h6]?).bind fun y7=>
  (a1).bind fun h8=>
  (a3[h8]?).bind fun y9=>
  let n10:Int:=w64 (y7.2.2.2.1+(w64 (Int.tdiv (w64 (y9.2.2.2.1*a0.1.2.2.2.2.1)) 1000)))
  bif decide ((w64 ((w64 (y3.2.2.2.2.1 - y5.2.2.2.2.2.2.1))+r1.1))>n10) then
   some (12,(a0.1,a0.2.1,a0.2.2.1,a0.2.2.2.1,a0.2.2.2.2.1,a0.2.2.2.2.2.1,()),a3,())
  else
   (a1).bind fun h11=>
   (a3[h11]?).bind fun y12=>
   bif decide ((w64 (y12.2.2.2.2.1+r1.1))>1000000000000000) then
    some (16,(a0.1,a0.2.1,a0.2.2.1,a0.2.2.2.1,a0.2.2.2.2.1,a0.2.2.2.2.2.1,()),a3,())
   else
    (a1).bind fun h13=>
    (a3[h13]?).bind fun y14=>
    (a1).bind fun h15=>
    (a3[h15]?).bind fun y16=>
    some (0,(a0.1,a0.2.1,a0.2.2.1,a0.2.2.2.1,a0.2.2.2.2.1,a0.2.2.2.2.2.1,()),List.set a3 h15 (y16.1,y16.2.1,y16.2.2.1,y16.2.2.2.1,w64 (y14.2.2.2.2.1+r1.1),y16.2.2.2.2.2),())
 else
  bif a2.2.2.2.1==10 then
   (a1).bind fun h17=>
   (a3[h17]?).bind fun y18=>
   (a1).bind fun h19=>
   (a3[h19]?).bind fun y20=>
   bif decide ((w64 (y18.2.2.2.2.2.1+r1.1))>y20.2.2.2.2.1) then
    some (12,(a0.1,a0.2.1,a0.2.2.1,a0.2.2.2.1,a0.2.2.2.2.1,a0.2.2.2.2.2.1,()),a3,())
   else
    (a1).bind fun h21=>
    (a3[h21]?).bind fun y22=>
    (a1).bind fun h23=>
    (a3[h23]?).bind fun y24=>
    some (0,(a0.1,a0.2.1,a0.2.2.1,a0.2.2.2.1,a0.2.2.2.2.1,a0.2.2.2.2.2.1,()),List.set a3 h23 (y24.1,y24.2.1,y24.2.2.1,y24.2.2.2.1,y24.2.2.2.2.1,w64 (y22.2.2.2.2.2.1+r1.1),y24.2.2.2.2.2.2),())
  else
   (a1).bind fun h25=>
   (a3[h25]?).bind fun y26=>
   (a1).bind fun h27=>
   (a3[h27]?).bind fun y28=>
   bif decide ((w64 (y26.2.2.2.2.2.2.1+r1.1))>y28.2.2.2.2.2.1) then
    some (12,(a0.1,a0.2.1,a0.2.2.1,a0.2.2.2.1,a0.2.2.2.2.1,a0.2.2.2.2.2.1,()),a3,())
   else
    (a1).bind fun h29=>
    (a3[h29]?).bind fun y30=>
    (a1).bind fun h31=>
    (a3[h31]?).bind fun y32=>
    some (0,(a0.1,a0.2.1,a0.2.2.1,a0.2.2.2.1,a0.2.2.2.2.1,a0.2.2.2.2.2.1,()),List.set a3 h31 (y32.1,y32.2.1,y32.2.2.1,y32.2.2.2.1,y32.2.2.2.2.1,y32.2.2.2.2.2.1,w64 (y30.2.2.2.2.2.2.1+r1.1),y32.2.2.2.2.2.2.2),())
def bp (a0:ai×(List aa)×(List (Int×(Option Nat)))×(List ah)×(List bn)×Int×Unit) (a1:Int) (a2:List bf):Option (Int×(ai×(List aa)×(List (Int×(Option Nat)))×(List ah)×(List bn)×Int×Unit)×(List bf)×Unit):=
 (idx a0.2.1 a1).bind fun y1=>
 bif y1.2.2.2.1==1 then
  (sY (a0.1,a0.2.1,a0.2.2.1,a0.2.2.2.1,a0.2.2.2.2.1,a0.2.2.2.2.2.1,()) a1 a2).bind fun r2=>
  some (r2.1,(r2.2.1.1,r2.2.1.2.1,r2.2.1.2.2.1,r2.2.1.2.2.2.1,r2.2.1.2.2.2.2.1,r2.2.1.2.2.2.2.2.1,()),r2.2.2.1,())
 else
  bif Option.isNone (Option.getD (α:=Option Nat) (dN (k:=tI) (v:= .hnd) a0.2.2.1 y1.2.2.2.2.1) none) then
   some (9,(a0.1,a0.2.1,a0.2.2.1,a0.2.2.2.1,a0.2.2.2.2.1,a0.2.2.2.2.2.1,()),a2,())
  else
   aG (γ:=(Int×(Option Nat)×Int×Bool×Int×Int×Int×Int×Int×Bys×Int×Int×Bys×Int×Int×Int×Int×Bys×Bys×Bys×Int×Int×(List aT)×(List aa)×Int×(List ah)×(List bn)×(List (Int×(Option Nat)))×(List bf)×Unit)) (
    bif y1.2.2.2.1==2 then
     some (.inr (a1,Option.getD (α:=Option Nat) (dN (k:=tI) (v:= .hnd) a0.2.2.1 y1.2.2.2.2.1) none,y1.2.2.2.1,y1.2.2.2.1==2,y1.1,y1.2.1,y1.2.2.1,y1.2.2.2.1,y1.2.2.2.2.1,y1.2.2.2.2.2.1,y1.2.2.2.2.2.2.1.1,y1.2.2.2.2.2.2.1.2,y1.2.2.2.2.2.2.2.1,y1.2.2.2.2.2.2.2.2.1.1,y1.2.2.2.2.2.2.2.2.1.2,y1.2.2.2.2.2.2.2.2.2.1,y1.2.2.2.2.2.2.2.2.2.2,a0.1.1,a0.1.2.1,a0.1.2.2.1,a0.1.2.2.2.1,a0.1.2.2.2.2.1,a0.1.2.2.2.2.2,a0.2.1,a0.2.2.2.2.2.1,a0.2.2.2.1,a0.2.2.2.2.1,a0.2.2.1,a2,()))
    else
     bif y1.2.2.2.1==3 then
      some (.inr (a1,Option.getD (α:=Option Nat) (dN (k:=tI) (v:= .hnd) a0.2.2.1 y1.2.2.2.2.1) none,y1.2.2.2.1,y1.2.2.2.1==3,y1.1,y1.2.1,y1.2.2.1,y1.2.2.2.1,y1.2.2.2.2.1,y1.2.2.2.2.2.1,y1.2.2.2.2.2.2.1.1,y1.2.2.2.2.2.2.1.2,y1.2.2.2.2.2.2.2.1,y1.2.2.2.2.2.2.2.2.1.1,y1.2.2.2.2.2.2.2.2.1.2,y1.2.2.2.2.2.2.2.2.2.1,y1.2.2.2.2.2.2.2.2.2.2,a0.1.1,a0.1.2.1,a0.1.2.2.1,a0.1.2.2.2.1,a0.1.2.2.2.2.1,a0.1.2.2.2.2.2,a0.2.1,a0.2.2.2.2.2.1,a0.2.2.2.1,a0.2.2.2.2.1,a0.2.2.1,a2,()))
     else
      some (.inr (a1,Option.getD (α:=Option Nat) (dN (k:=tI) (v:= .hnd) a0.2.2.1 y1.2.2.2.2.1) none,y1.2.2.2.1,y1.2.2.2.1==4,y1.1,y1.2.1,y1.2.2.1,y1.2.2.2.1,y1.2.2.2.2.1,y1.2.2.2.2.2.1,y1.2.2.2.2.2.2.1.1,y1.2.2.2.2.2.2.1.2,y1.2.2.2.2.2.2.2.1,y1.2.2.2.2.2.2.2.2.1.1,y1.2.2.2.2.2.2.2.2.1.2,y1.2.2.2.2.2.2.2.2.2.1,y1.2.2.2.2.2.2.2.2.2.2,a0.1.1,a0.1.2.1,a0.1.2.2.1,a0.1.2.2.2.1,a0.1.2.2.2.2.1,a0.1.2.2.2.2.2,a0.2.1,a0.2.2.2.2.2.1,a0.2.2.2.1,a0.2.2.2.2.1,a0.2.2.1,a2,()))) fun (A,B,C,D,E,F,G,H,I,J,K,L,M,N,O,P,Q,R,S,T,U,V,W,X,Y,Z,A0,B0,C0,_)=>
   bif D then
    (rD ((R,S,T,U,V,W),X,B0,Z,A0,Y,()) B A C0).bind fun r4=>
    some (r4.1,(r4.2.1.1,r4.2.1.2.1,r4.2.1.2.2.1,r4.2.1.2.2.2.1,r4.2.1.2.2.2.2.1,r4.2.1.2.2.2.2.2.1,()),r4.2.2.1,())
   else
    aG (γ:=((Option Nat)×Int×Bool×Int×Int×Int×Int×Int×Bys×Int×Int×Bys×Int×Int×Int×Int×Bys×Bys×Bys×Int×Int×(List aT)×(List aa)×Int×(List ah)×(List bn)×(List (Int×(Option Nat)))×(List bf)×Unit)) (
     bif C==5 then
      some (.inr (B,C,C==5,E,F,G,H,I,J,K,L,M,N,O,P,Q,R,S,T,U,V,W,X,Y,Z,A0,B0,C0,()))
     else
      some (.inr (B,C,C==6,E,F,G,H,I,J,K,L,M,N,O,P,Q,R,S,T,U,V,W,X,Y,Z,A0,B0,C0,()))) fun (D0,E0,F0,G0,H0,I0,J0,K0,L0,M0,N0,O0,P0,Q0,R0,S0,T0,U0,V0,W0,X0,Y0,Z0,A1,B1,C1,D1,E1,_)=>
    aG (γ:=((Option Nat)×Int×Int×Int×Int×Int×Int×Bys×Int×Int×Bys×Int×Int×Int×Int×Bys×Bys×Bys×Int×Int×(List aT)×(List aa)×(List (Int×(Option Nat)))×(List ah)×(List bn)×Int×(List bf)×Unit)) (
     bif F0 then
      (oK ((T0,U0,V0,W0,X0,Y0),Z0,D1,B1,C1,A1,()) D0 (G0,H0,I0,J0,K0,L0,(M0,N0),O0,(P0,Q0),R0,S0) E1).bind fun r6=>
      some (.inr (D0,r6.1,G0,H0,I0,J0,K0,L0,M0,N0,O0,P0,Q0,R0,S0,r6.2.1.1.1,r6.2.1.1.2.1,r6.2.1.1.2.2.1,r6.2.1.1.2.2.2.1,r6.2.1.1.2.2.2.2.1,r6.2.1.1.2.2.2.2.2,r6.2.1.2.1,r6.2.1.2.2.1,r6.2.1.2.2.2.1,r6.2.1.2.2.2.2.1,r6.2.1.2.2.2.2.2.1,r6.2.2.1,()))
     else
      bif E0==7 then
       (nV ((T0,U0,V0,W0,X0,Y0),Z0,D1,B1,C1,A1,()) D0 (G0,H0,I0,J0,K0,L0,(M0,N0),O0,(P0,Q0),R0,S0) E1).bind fun r7=>
       some (.inr (D0,r7.1,G0,H0,I0,J0,K0,L0,M0,N0,O0,P0,Q0,R0,S0,r7.2.1.1.1,r7.2.1.1.2.1,r7.2.1.1.2.2.1,r7.2.1.1.2.2.2.1,r7.2.1.1.2.2.2.2.1,r7.2.1.1.2.2.2.2.2,r7.2.1.2.1,r7.2.1.2.2.1,r7.2.1.2.2.2.1,r7.2.1.2.2.2.2.1,r7.2.1.2.2.2.2.2.1,r7.2.2.1,()))
      else
       bif E0==8 then
        (rC ((T0,U0,V0,W0,X0,Y0),Z0,D1,B1,C1,A1,()) D0 (G0,H0,I0,J0,K0,L0,(M0,N0),O0,(P0,Q0),R0,S0) E1).bind fun r8=>
        some (.inl (r8.1,(r8.2.1.1,r8.2.1.2.1,r8.2.1.2.2.1,r8.2.1.2.2.2.1,r8.2.1.2.2.2.2.1,r8.2.1.2.2.2.2.2.1,()),r8.2.2.1,()))
       else
        (rB ((T0,U0,V0,W0,X0,Y0),Z0,D1,B1,C1,A1,()) D0 (G0,H0,I0,J0,K0,L0,(M0,N0),O0,(P0,Q0),R0,S0) E1).bind fun r9=>
        some (.inr (D0,r9.1,G0,H0,I0,J0,K0,L0,M0,N0,O0,P0,Q0,R0,S0,r9.2.1.1.1,r9.2.1.1.2.1,r9.2.1.1.2.2.1,r9.2.1.1.2.2.2.1,r9.2.1.1.2.2.2.2.1,r9.2.1.1.2.2.2.2.2,r9.2.1.2.1,r9.2.1.2.2.1,r9.2.1.2.2.2.1,r9.2.1.2.2.2.2.1,r9.2.1.2.2.2.2.2.1,r9.2.2.1,()))) fun (F1,G1,_,_,H1,I1,_,_,J1,K1,_,_,_,L1,_,M1,N1,O1,P1,Q1,R1,S1,T1,U1,V1,W1,X1,_)=>
    (
     bif G1==0 then
      Option.bind (s5 I1) fun r11=>
      some (r11.1,())
     else
      some (false,())).bind fun v12=>
    bif v12.1 then
     (F1).bind fun h13=>
     (X1[h13]?).bind fun y14=>
     bif I1==7 then
      (kO (J1,K1)).bind fun r15=>
      (F1).bind fun h16=>
      ((List.set X1 h13 (y14.1,y14.2.1,y14.2.2.1,y14.2.2.2.1,y14.2.2.2.2.1,y14.2.2.2.2.2.1,y14.2.2.2.2.2.2.1,y14.2.2.2.2.2.2.2.1,y14.2.2.2.2.2.2.2.2.1,y14.2.2.2.2.2.2.2.2.2.1,0,0,0))[h16]?).bind fun y17=>
      some (G1,((M1,N1,O1,P1,Q1,R1),S1,T1,U1,V1,W1,()),List.set (List.set X1 h13 (y14.1,y14.2.1,y14.2.2.1,y14.2.2.2.1,y14.2.2.2.2.1,y14.2.2.2.2.2.1,y14.2.2.2.2.2.2.1,y14.2.2.2.2.2.2.2.1,y14.2.2.2.2.2.2.2.2.1,y14.2.2.2.2.2.2.2.2.2.1,0,0,0)) h16 (y17.1,y17.2.1,y17.2.2.1,y17.2.2.2.1,y17.2.2.2.2.1,y17.2.2.2.2.2.1,y17.2.2.2.2.2.2.1,y17.2.2.2.2.2.2.2.1,y17.2.2.2.2.2.2.2.2.1,y17.2.2.2.2.2.2.2.2.2.1,H1,r15.1,L1),())
     else
      some (G1,((M1,N1,O1,P1,Q1,R1),S1,T1,U1,V1,W1,()),List.set X1 h13 (y14.1,y14.2.1,y14.2.2.1,y14.2.2.2.1,y14.2.2.2.2.1,y14.2.2.2.2.2.1,y14.2.2.2.2.2.2.1,y14.2.2.2.2.2.2.2.1,y14.2.2.2.2.2.2.2.2.1,y14.2.2.2.2.2.2.2.2.2.1,0,0,0),())
    else
     some (G1,((M1,N1,O1,P1,Q1,R1),S1,T1,U1,V1,W1,()),X1,())
def s6 (a0:Int):Option (ah×Unit):=
 (gX a0).bind fun r1=>
 (mY r1.1 3).bind fun r2=>
 some (r2.1,())
abbrev yh:Type:=Int×Int×Int×Int×Unit
abbrev yg:Type:=((ah×Unit) ⊕ (Int×Int×Int×Int×Unit))
def yf (x1:yh) (again:yh->Option yg):Option yg:=
 (
  bif decide (x1.2.1>0) then
   some ((Int.tmod x1.1 10)==0,())
  else
   some (false,())).bind fun v2=>
 bif v2.1 then
  again (w64 (Int.tdiv x1.1 10),w64 (x1.2.1 - 1),x1.2.2.1,x1.2.2.2.1,())
 else
  some (.inr (x1.1,x1.2.1,x1.2.2.1,x1.2.2.2.1,()))
def CO (a0:ah):Option (ah×Unit):=
 aG (
  iter (X:=yh) (β:=yg) (a0.1.natAbs+(a0.2.natAbs+(Int.natAbs (0:Int)+(Int.natAbs (0:Int)+2)))) (a0.1,a0.2,0,0,()) (yf)) fun v3=>
 some ((v3.1,v3.2.1),())
def nN (a0:Option Nat) (a1:List bf):Option (aj×Unit):=
 (a0).bind fun h1=>
 (a1[h1]?).bind fun y2=>
 (a0).bind fun h3=>
 (a1[h3]?).bind fun y4=>
 (a0).bind fun h5=>
 (a1[h5]?).bind fun y6=>
 (a0).bind fun h7=>
 (a1[h7]?).bind fun y8=>
 (s6 y8.2.2.2.1).bind fun r9=>
 (a0).bind fun h10=>
 (a1[h10]?).bind fun y11=>
 (CO y11.2.2.2.2.2.2.2.1).bind fun r12=>
 (a0).bind fun h13=>
 (a1[h13]?).bind fun y14=>
 (a0).bind fun h15=>
 (a1[h15]?).bind fun y16=>
 (s6 y16.2.2.2.2.1).bind fun r17=>
 (a0).bind fun h18=>
 (a1[h18]?).bind fun y19=>
 (s6 y19.2.2.2.2.2.1).bind fun r20=>
 (a0).bind fun h21=>
 (a1[h21]?).bind fun y22=>
 (s6 y22.2.2.2.2.2.2.1).bind fun r23=>
 (mG a0 a1).bind fun r24=>
 (s6 r24.1).bind fun r25=>
 some ((y2.1,y4.2.1,y6.2.2.1,r9.1,r12.1,y14.2.2.2.2.2.2.2.2.1,r17.1,r20.1,r23.1,r25.1),())
abbrev oM:Type:=Int×(List aa)×Int×Int×Bys×Bys×Bys×Int×Int×(List aT)×(List aa)×(List (Int×(Option Nat)))×(List ah)×(List bn)×Int×(List bf)×Unit
abbrev oL:Type:=(((ai×(List aa)×(List (Int×(Option Nat)))×(List ah)×(List bn)×Int×Unit)×(List bf)×Unit) ⊕ (Bys×Bys×Bys×Int×Int×(List aT)×(List aa)×(List (Int×(Option Nat)))×(List ah)×(List bn)×Int×(List bf)×Unit))
def lM (x1:oM) (again:oM->Option oL):Option oL:=
 match x1 with
 | (A,B,C,D,E,F,G,H,I,J,K,L,M,N,O,P,_)=>
 bif decide (D<C) then
  (idx B D).bind fun y2=>
  bif decide (y2.1>A) then
   some (.inr (E,F,G,H,I,J,K,L,M,N,O,P,()))
  else
   (bp ((E,F,G,H,I,J),K,L,M,N,O,()) D P).bind fun r3=>
   bif r3.1 != 0 then
    chk (decide (((r3.2.1.2.2.2.1.length)+1)*16<=140737488355328)&&decide ((r3.2.1.2.2.2.1.length)+1<=maxLen)) <|
    again (A,B,C,w64 (D+1),r3.2.1.1.1,r3.2.1.1.2.1,r3.2.1.1.2.2.1,r3.2.1.1.2.2.2.1,r3.2.1.1.2.2.2.2.1,r3.2.1.1.2.2.2.2.2,r3.2.1.2.1,r3.2.1.2.2.1,r3.2.1.2.2.2.1++[(D,r3.1)],r3.2.1.2.2.2.2.1,r3.2.1.2.2.2.2.2.1,r3.2.2.1,())
   else
    bif y2.2.2.2.2.1==r3.2.1.2.2.2.2.2.1 then
     (nN (Option.getD (α:=Option Nat) (dN (k:=tI) (v:= .hnd) r3.2.1.2.2.1 y2.2.2.2.2.1) none) r3.2.2.1).bind fun r4=>
     chk (decide (((r3.2.1.2.2.2.2.1.length)+1)*152<=140737488355328)&&decide ((r3.2.1.2.2.2.2.1.length)+1<=maxLen)) <|
     again (A,B,C,w64 (D+1),r3.2.1.1.1,r3.2.1.1.2.1,r3.2.1.1.2.2.1,r3.2.1.1.2.2.2.1,r3.2.1.1.2.2.2.2.1,r3.2.1.1.2.2.2.2.2,r3.2.1.2.1,r3.2.1.2.2.1,r3.2.1.2.2.2.1,r3.2.1.2.2.2.2.1++[(D,r4.1)],r3.2.1.2.2.2.2.2.1,r3.2.2.1,())
    else
     again (A,B,C,w64 (D+1),r3.2.1.1.1,r3.2.1.1.2.1,r3.2.1.1.2.2.1,r3.2.1.1.2.2.2.1,r3.2.1.1.2.2.2.2.1,r3.2.1.1.2.2.2.2.2,r3.2.1.2.1,r3.2.1.2.2.1,r3.2.1.2.2.2.1,r3.2.1.2.2.2.2.1,r3.2.1.2.2.2.2.2.1,r3.2.2.1,())
 else
  some (.inr (E,F,G,H,I,J,K,L,M,N,O,P,()))
def lK (a0:ai×(List aa)×(List (Int×(Option Nat)))×(List ah)×(List bn)×Int×Unit) (a1:Int) (a2:List bf):Option ((ai×(List aa)×(List (Int×(Option Nat)))×(List ah)×(List bn)×Int×Unit)×(List bf)×Unit):=
 aG (
  iter (X:=oM) (β:=oL) (a1.natAbs+(a0.2.1.length+(Int.natAbs ((a0.2.1.length:Int))+(Int.natAbs (0:Int)+(a0.1.1.length+(a0.1.2.1.length+(a0.1.2.2.1.length+(a0.1.2.2.2.1.natAbs+(a0.1.2.2.2.2.1.natAbs+(a0.1.2.2.2.2.2.length+(a0.2.1.length+(a0.2.2.1.length+(a0.2.2.2.1.length+(a0.2.2.2.2.1.length+(a0.2.2.2.2.2.1.natAbs+(a2.length+2)))))))))))))))) (a1,a0.2.1,(a0.2.1.length:Int),0,a0.1.1,a0.1.2.1,a0.1.2.2.1,a0.1.2.2.2.1,a0.1.2.2.2.2.1,a0.1.2.2.2.2.2,a0.2.1,a0.2.2.1,a0.2.2.2.1,a0.2.2.2.2.1,a0.2.2.2.2.2.1,a2,()) (lM)) fun (A,B,C,D,E,F,G,H,I,J,K,L,_)=>
 some (((A,B,C,D,E,F),G,H,I,J,K,()),L,())
def sV (a0:Bys) (a1:Bys):Option (Bool×Unit):=
 bif decide (((a0.length:Int))>=((a1.length:Int))) then
  chk (decide (0<=(0:Int))&&decide ((0:Int)<=((a1.length:Int)))&&decide (((a1.length:Int))<=(a0.length:Int))) <|
  some ((List.drop 0 (List.take (Int.toNat ((a1.length:Int))) a0))==a1,())
 else
  some (false,())
def sU (a0:Bys) (a1:Bys):Option (Bys×Bool×Unit):=
 (sV a0 a1).bind fun r1=>
 bif !r1.1 then
  some (a0,false,())
 else
  chk (decide (0<=((a1.length:Int)))&&decide (((a1.length:Int))<=((a0.length:Int)))&&decide (((a0.length:Int))<=(a0.length:Int))) <|
  some (List.drop (Int.toNat ((a1.length:Int))) (List.take (Int.toNat ((a0.length:Int))) a0),true,())
def F9 (a0:Bys) (a1:Bys):Option (Bys×Bool×Unit):=
 (sU a0 a1).bind fun r1=>
 some (r1.1,r1.2.1,())
def xg (a0:Bys) (a1:Bys):Option (Int×Unit):=
 bif ((a1.length:Int))==0 then
  some (0,())
 else
  bif a1==a0 then
   some (0,())
  else
   bif ((a1.length:Int))==1 then
    (BV a1 0).bind fun c1=>
    (iJ a0 (c1.toNat:Int)).bind fun r2=>
    some (r2.1,())
   else
    bif decide (((a1.length:Int))>=((a0.length:Int))) then
     some ((-1),())
    else
     none
def za (a0:Bys) (a1:Bys):Option (Bys×Bys×Bool×Unit):=
 (xg a0 a1).bind fun r1=>
 bif decide (r1.1>=0) then
  chk (decide (0<=(0:Int))&&decide ((0:Int)<=r1.1)&&decide (r1.1<=(a0.length:Int))) <|
  chk (decide (0<=(w64 (r1.1+((a1.length:Int)))))&&decide ((w64 (r1.1+((a1.length:Int))))<=((a0.length:Int)))&&decide (((a0.length:Int))<=(a0.length:Int))) <|
  some (List.drop 0 (List.take (Int.toNat r1.1) a0),List.drop (Int.toNat (w64 (r1.1+((a1.length:Int))))) (List.take (Int.toNat ((a0.length:Int))) a0),true,())
 else
  some (a0,[],false,())
def QO (a0:Bys) (a1:Bys):Option (Bys×Bys×Bool×Unit):=
 (za a0 a1).bind fun r1=>
 some (r1.1,r1.2.1,r1.2.2.1,())
def JM (a0:Bys):Option (Bool×Unit):=
 (
  Option.bind (qP a0) fun r1=>
  bif r1.1 then
   bif ((a0.length:Int))==1 then
    some (true,())
   else
    Option.bind (BV a0 0) fun c2=>
    some ((c2.toNat:Int) != 48,())
  else
   some (false,())).bind fun v3=>
 some (v3.1,())
abbrev D5:Type:=Bool×Bys×Bys×Int×Int×Int×Int×Bool×(List Int)×Unit
abbrev D4:Type:=((ah×Int×Unit) ⊕ (Bool×Bys×Int×Int×Bool×(List Int)×Unit))
def Uf (x1:D5) (again:D5->Option D4):Option D4:=
 match x1 with
 | (A,B,C,D,E,F,G,H,I,_)=>
 bif decide (E<D) then
  (gX 10).bind fun r2=>
  (gT (H,I) r2.1).bind fun r3=>
  chk (decide (B.length+C.length<=maxLen)) <|
  (BV (B++C) E).bind fun c4=>
  (gX (w64 (wu8 ((c4.toNat:Int) - 48)))).bind fun r5=>
  (gQ r3.1 r5.1).bind fun r6=>
  again (A,B,C,D,w64 (E+1),F,G,r6.1.1,r6.1.2,())
 else
  some (.inr (A,C,F,G,H,I,()))
def Qm (a0:Bool) (a1:Bys) (a2:Bys):Option (ah×Int×Unit):=
 (gX 0).bind fun r1=>
 chk (decide (a1.length+a2.length<=maxLen)) <|
 aG (
  iter (X:=D5) (β:=D4) (a1.length+(a2.length+(Int.natAbs ((List.length (a1++a2):Int))+(Int.natAbs (0:Int)+(Int.natAbs (0:Int)+(Int.natAbs (0:Int)+(r1.1.2.length+2))))))) (a0,a1,a2,(List.length (a1++a2):Int),0,0,0,r1.1.1,r1.1.2,()) (Uf)) fun (A,B,_,_,C,D,_)=>
 bif A then
  (fP (C,D)).bind fun r9=>
  bif r9.1==0 then
   some ((0,0),10,())
  else
   (o8 (C,D)).bind fun r10=>
   (ug r10.1 ((B.length:Int))).bind fun r11=>
   some (r11.1,r11.2.1,())
 else
  (ug (C,D) ((B.length:Int))).bind fun r12=>
  some (r12.1,r12.2.1,())
def Io (a0:Bys):Option (ah×Int×Unit):=
 (F9 a0 [45]).bind fun r1=>
 (QO r1.1 [46]).bind fun r2=>
 (
  bif decide (((a0.length:Int))>40) then
   some (true,())
  else
   Option.bind (JM r2.1) fun r3=>
   bif !r3.1 then
    some (true,())
   else
    bif r2.2.2.1 then
     Option.bind (qP r2.2.1) fun r4=>
     bif !r4.1 then
      some (true,())
     else
      some (decide (((r2.2.1.length:Int))>9),())
    else
     some (false,())).bind fun v5=>
 bif v5.1 then
  some ((0,0),10,())
 else
  (Qm r1.2.1 r2.1 r2.2.1).bind fun r6=>
  some (r6.1,r6.2.1,())
def Eg (a0:ai) (a1:List aa) (a2:Int) (a3:List bf):Option ((ai×(List aa)×(List (Int×(Option Nat)))×(List ah)×(List bn)×Int×Unit)×Int×(List bf)×Unit):=
 (xk a0 a1).bind fun r1=>
 bif r1.1 != 0 then
  none
 else
  (oc a2).bind fun r2=>
  bif !r2.1 then
   none
  else
   (mT a0 a1 a3).bind fun r3=>
   (lK (r3.1.1,r3.1.2.1,r3.1.2.2.1,r3.1.2.2.2.1,r3.1.2.2.2.2.1,r3.1.2.2.2.2.2.1,()) a2 r3.2.1).bind fun r4=>
   some ((r4.1.1,r4.1.2.1,r4.1.2.2.1,r4.1.2.2.2.1,r4.1.2.2.2.2.1,r4.1.2.2.2.2.2.1,()),0,r4.2.1,())
def Ak (a0:ai) (a1:List aa) (a2:Int) (a3:List bf):Option ((Option Nat)×Int×(List bf)×Unit):=
 (xk a0 a1).bind fun r1=>
 bif r1.1 != 0 then
  some (none,r1.1,a3,())
 else
  (oc a2).bind fun r2=>
  bif !r2.1 then
   some (none,1,a3,())
  else
   (mT a0 a1 a3).bind fun r3=>
   (lK (r3.1.1,r3.1.2.1,r3.1.2.2.1,r3.1.2.2.2.1,r3.1.2.2.2.2.1,r3.1.2.2.2.2.2.1,()) a2 r3.2.1).bind fun _=>
   none
def oH (a0:ai) (a1:List aa):Option ((List ah)×Int×Unit):=
 Gu (Ak a0 a1 3652059 []) (fun r1=>
  bif r1.2.1 != 0 then
   some ([],r1.2.1,())
  else
   (r1.1).bind fun h2=>
   (r1.2.2.1[h2]?).bind fun _=>
   none) (
  (Eg a0 a1 3652059 []).bind fun r4=>
  bif r4.2.1 != 0 then
   some ([],r4.2.1,())
  else
   some (r4.1.2.2.2.1,0,()))
end
end Go.Md
namespace Go.Md
open Go.Dn
abbrev slices_Sort_int (l:List Int):Option (List Int×Unit):=agA l
noncomputable section
abbrev jv:Type:=(List (Option Nat))×Int×Int×Bys×Bys×Bys×Int×Int×(List aT)×(List aa)×Int×(List Int)×(List ah)×(List bn)×(List (Int×(Option Nat)))×Unit
abbrev mE:Type:=(((List (Option Nat))×(ai×(List aa)×(List (Int×(Option Nat)))×(List ah)×(List bn)×Int×Unit)×Unit) ⊕ ((List (Option Nat))×Bys×Bys×Bys×Int×Int×(List aT)×(List aa)×Int×(List ah)×(List bn)×(List (Int×(Option Nat)))×Unit))
def mD (x1:jv) (again:jv->Option mE):Option mE:=
 match x1 with
 | (A,B,C,D,E,F,G,H,I,J,K,L,M,N,O,_)=>
 bif decide (C<B) then
  chk (decide (0<=C)&&decide (C<(L.length:Int))) <|
  (L[C.toNat]?).bind fun y2=>
  chk (decide (((A.length)+1)*8<=140737488355328)&&decide ((A.length)+1<=maxLen)) <|
  again (A++[(Option.getD (α:=Option Nat) (dN (k:=tI) (v:= .hnd) O y2) none)],B,w64 (C+1),D,E,F,G,H,I,J,K,L,M,N,O,())
 else
  some (.inr (A,D,E,F,G,H,I,J,K,M,N,O,()))
def lN (a0:ai×(List aa)×(List (Int×(Option Nat)))×(List ah)×(List bn)×Int×Unit):Option ((List (Option Nat))×(ai×(List aa)×(List (Int×(Option Nat)))×(List ah)×(List bn)×Int×Unit)×Unit):=
 chk (Ou a0.2.2.1) <|
 aG (
  iter (X:=jv) (β:=mE) (List.length ([]:List (Option Nat))+(Int.natAbs ((List.length (Ad a0.2.2.1):Int))+(Int.natAbs (0:Int)+(a0.1.1.length+(a0.1.2.1.length+(a0.1.2.2.1.length+(a0.1.2.2.2.1.natAbs+(a0.1.2.2.2.2.1.natAbs+(a0.1.2.2.2.2.2.length+(a0.2.1.length+(a0.2.2.2.2.2.1.natAbs+(List.length ((Ad a0.2.2.1):List Int)+(a0.2.2.2.1.length+(a0.2.2.2.2.1.length+(a0.2.2.1.length+2))))))))))))))) ([],(List.length (Ad a0.2.2.1):Int),0,a0.1.1,a0.1.2.1,a0.1.2.2.1,a0.1.2.2.2.1,a0.1.2.2.2.2.1,a0.1.2.2.2.2.2,a0.2.1,a0.2.2.2.2.2.1,Ad a0.2.2.1,a0.2.2.2.1,a0.2.2.2.2.1,a0.2.2.1,()) (mD)) fun (A,B,C,D,E,F,G,H,I,J,K,L,_)=>
 some (A,((B,C,D,E,F,G),H,L,J,K,I,()),())
abbrev qT:Type:=(List aj)×Int×Int×(List (Option Nat))×(List bf)×Unit
abbrev wA:Type:=(((List aj)×Int×Unit) ⊕ ((List aj)×(List bf)×Unit))
def wz (x1:qT) (again:qT->Option wA):Option wA:=
 match x1 with
 | (A,B,C,D,E,_)=>
 bif decide (C<B) then
  chk (decide (0<=C)&&decide (C<(D.length:Int))) <|
  (D[C.toNat]?).bind fun y2=>
  (nN y2 E).bind fun r3=>
  chk (decide (((A.length)+1)*144<=140737488355328)&&decide ((A.length)+1<=maxLen)) <|
  again (A++[r3.1],B,w64 (C+1),D,E,())
 else
  some (.inr (A,E,()))
def pn (a0:ai) (a1:List aa) (a2:Int):Option ((List aj)×Int×Unit):=
 Gu (Ak a0 a1 a2 []) (fun r1=>
  bif r1.2.1 != 0 then
   some ([],r1.2.1,())
  else
   none) (
  (Eg a0 a1 a2 []).bind fun r2=>
  bif r2.2.1 != 0 then
   some ([],r2.2.1,())
  else
   (lN (r2.1.1,r2.1.2.1,r2.1.2.2.1,r2.1.2.2.2.1,r2.1.2.2.2.2.1,r2.1.2.2.2.2.2.1,())).bind fun r3=>
   aG (
    iter (X:=qT) (β:=wA) (List.length ([]:List aj)+(Int.natAbs ((r3.1.length:Int))+(Int.natAbs (0:Int)+(r3.1.length+(r2.2.2.1.length+2))))) ([],(r3.1.length:Int),0,r3.1,r2.2.2.1,()) (wz)) fun v7=>
   some (v7.1,0,()))
end
end Go.Md
namespace Go.Md
open Go.Dn
end Go.Md
