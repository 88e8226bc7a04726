/-
  The plain models of the functions that the law reaches, a further part. No condition.
-/
import Derived.Test.YtjlkkapojeldlabGreatDoorYo
import Derived.Test.YtjlkkapojeldlabGreatDoorYd
namespace Go.Md
open Go.Dn
noncomputable section
end
end Go.Md
namespace Go.Md
open Go.Dn
end Go.Md
namespace Go.Md
open Go.Dn
end Go.Md
set_option linter.all false
namespace Go.Md
open Go.Dn
end Go.Md
set_option linter.all false
namespace Go.Md
open Go.Dn
abbrev iw:Type:=(List aJ)×(List aJ)×Int×Int×Unit
abbrev kI:Type:=((Bool×Unit) ⊕ Unit)
def iu (x1:iw) (again:iw->Option kI):Option kI:=
 match x1 with
 | (A,B,C,D,_)=>
 bif decide (D<C) then
  (idx A D).bind fun y2=>
  (idx B D).bind fun y3=>
  bif !((y2.1==y3.1)&&(((y2.2.1.1==y3.2.1.1)&&((y2.2.1.2==y3.2.1.2)&&true))&&((y2.2.2==y3.2.2)&&true))) then
   some (.inl (false,()))
  else
   again (A,B,C,w64 (D+1),())
 else
  some (.inr ())
def gH (a0:List aJ) (a1:List aJ):Option (Bool×Unit):=
 bif ((a0.length:Int)) != ((a1.length:Int)) then
  some (false,())
 else
  aR (
   iter (X:=iw) (β:=kI) (a0.length+(a1.length+(Int.natAbs ((a0.length:Int))+(Int.natAbs (0:Int)+2)))) (a0,a1,(a0.length:Int),0,()) (iu)) fun _=>
  some (true,())
abbrev iQ:Type:=(List aC)×(List aC)×Int×Int×Unit
abbrev lz:Type:=((Bool×Unit) ⊕ Unit)
def iP (x1:iQ) (again:iQ->Option lz):Option lz:=
 match x1 with
 | (A,B,C,D,_)=>
 bif decide (D<C) then
  (idx A D).bind fun y2=>
  (idx B D).bind fun y3=>
  bif !((y2.1==y3.1)&&(((y2.2.1==y3.2.1)&&((y2.2.2==y3.2.2)&&true))&&true)) then
   some (.inl (false,()))
  else
   again (A,B,C,w64 (D+1),())
 else
  some (.inr ())
def jT (a0:List aC) (a1:List aC):Option (Bool×Unit):=
 bif ((a0.length:Int)) != ((a1.length:Int)) then
  some (false,())
 else
  aR (
   iter (X:=iQ) (β:=lz) (a0.length+(a1.length+(Int.natAbs ((a0.length:Int))+(Int.natAbs (0:Int)+2)))) (a0,a1,(a0.length:Int),0,()) (iP)) fun _=>
  some (true,())
abbrev th:Type:=(List ai)×Int×Int×Bys×Bys×Int×Int×Int×Bool×(List aC)×(List ai)×(List aJ)×Bys×Bys×Int×Int×Int×Bool×(List aC)×(List ai)×(List aJ)×Unit
abbrev BQ:Type:=((Bool×Unit) ⊕ (Bys×Bys×Int×Int×Int×Bool×(List aC)×(List ai)×(List aJ)×Bys×Bys×Int×Int×Int×Bool×(List aC)×(List ai)×(List aJ)×Unit))
def xE (x1:th) (again:th->Option BQ):Option BQ:=
 match x1 with
 | (A,B,C,D,E,F,G,H,I,J,K,L,M,N,O,P,Q,R,S,T,U,_)=>
 bif decide (C<B) then
  (idx A C).bind fun y2=>
  (idx T C).bind fun y3=>
  bif y2.1 != y3.1 then
   some (.inl (false,()))
  else
   bif y2.2.1 != y3.2.1 then
    some (.inl (false,()))
   else
    bif !(y2.2.2.1==y3.2.2.1) then
     some (.inl (false,()))
    else
     bif !((y2.2.2.2.1.1==y3.2.2.2.1.1)&&((y2.2.2.2.1.2==y3.2.2.2.1.2)&&true)) then
      some (.inl (false,()))
     else
      bif !(y2.2.2.2.2.1==y3.2.2.2.2.1) then
       some (.inl (false,()))
      else
       bif !((y2.2.2.2.2.2.1.1==y3.2.2.2.2.2.1.1)&&((y2.2.2.2.2.2.1.2==y3.2.2.2.2.2.1.2)&&true)) then
        some (.inl (false,()))
       else
        bif y2.2.2.2.2.2.2.1 != y3.2.2.2.2.2.2.1 then
         some (.inl (false,()))
        else
         bif !(y2.2.2.2.2.2.2.2.2==y3.2.2.2.2.2.2.2.2) then
          some (.inl (false,()))
         else
          (gH y2.2.2.2.2.2.2.2.1 y3.2.2.2.2.2.2.2.1).bind fun r4=>
          bif !r4.1 then
           some (.inl (false,()))
          else
           again (A,B,w64 (C+1),D,E,F,G,H,I,J,K,L,M,N,O,P,Q,R,S,T,U,())
 else
  some (.inr (D,E,F,G,H,I,J,K,L,M,N,O,P,Q,R,S,T,U,()))
def wV (a0:aa) (a1:aa):Option (Bool×Unit):=
 bif !(a0.1==a1.1) then
  some (false,())
 else
  bif !(a0.2.1==a1.2.1) then
   some (false,())
  else
   bif a0.2.2.1 != a1.2.2.1 then
    some (false,())
   else
    bif a0.2.2.2.1 != a1.2.2.2.1 then
     some (false,())
    else
     bif a0.2.2.2.2.1 != a1.2.2.2.2.1 then
      some (false,())
     else
      bif !(a0.2.2.2.2.2.1==a1.2.2.2.2.2.1) then
       some (false,())
      else
       bif ((a0.2.2.2.2.2.2.2.1.length:Int)) != ((a1.2.2.2.2.2.2.2.1.length:Int)) then
        some (false,())
       else
        aR (
         iter (X:=th) (β:=BQ) (a0.2.2.2.2.2.2.2.1.length+(Int.natAbs ((a0.2.2.2.2.2.2.2.1.length:Int))+(Int.natAbs (0:Int)+(a0.1.length+(a0.2.1.length+(a0.2.2.1.natAbs+(a0.2.2.2.1.natAbs+(a0.2.2.2.2.1.natAbs+(a0.2.2.2.2.2.2.1.length+(a0.2.2.2.2.2.2.2.1.length+(a0.2.2.2.2.2.2.2.2.length+(a1.1.length+(a1.2.1.length+(a1.2.2.1.natAbs+(a1.2.2.2.1.natAbs+(a1.2.2.2.2.1.natAbs+(a1.2.2.2.2.2.2.1.length+(a1.2.2.2.2.2.2.2.1.length+(a1.2.2.2.2.2.2.2.2.length+2))))))))))))))))))) (a0.2.2.2.2.2.2.2.1,(a0.2.2.2.2.2.2.2.1.length:Int),0,a0.1,a0.2.1,a0.2.2.1,a0.2.2.2.1,a0.2.2.2.2.1,a0.2.2.2.2.2.1,a0.2.2.2.2.2.2.1,a0.2.2.2.2.2.2.2.1,a0.2.2.2.2.2.2.2.2,a1.1,a1.2.1,a1.2.2.1,a1.2.2.2.1,a1.2.2.2.2.1,a1.2.2.2.2.2.1,a1.2.2.2.2.2.2.1,a1.2.2.2.2.2.2.2.1,a1.2.2.2.2.2.2.2.2,()) (xE)) fun (_,_,_,_,_,_,A,_,B,_,_,_,_,_,_,C,_,D,_)=>
        (
         Option.bind (jT A C) fun r6=>
         bif r6.1 then
          Option.bind (gH B D) fun r7=>
          some (r7.1,())
         else
          some (false,())).bind fun v8=>
        some (v8.1,())
end Go.Md
