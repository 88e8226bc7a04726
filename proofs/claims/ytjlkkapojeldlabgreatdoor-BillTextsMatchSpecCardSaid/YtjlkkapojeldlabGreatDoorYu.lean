/-
  The plain models of the functions that the law reaches, a further part. No condition.
-/
import Derived.Test.YtjlkkapojeldlabGreatDoorYo
import Derived.Test.YtjlkkapojeldlabGreatDoorYd
namespace Go.Md
open Go.Dn
noncomputable section
end
end Go.Md
namespace Go.Md
open Go.Dn
end Go.Md
namespace Go.Md
open Go.Dn
end Go.Md
set_option linter.all false
namespace Go.Md
open Go.Dn
end Go.Md
set_option linter.all false
namespace Go.Md
open Go.Dn
abbrev ig:Type:=(List aj)×(List aj)×Int×Int×Unit
abbrev kF:Type:=((Bool×Unit) ⊕ Unit)
def ia (x1:ig) (again:ig->Option kF):Option kF:=
 match x1 with
 | (A,B,C,D,_)=>
 bif decide (D<C) then
  (idx A D).bind fun y2=>
  (idx B D).bind fun y3=>
  bif !((y2.1==y3.1)&&(((y2.2.1.1==y3.2.1.1)&&((y2.2.1.2==y3.2.1.2)&&true))&&((y2.2.2==y3.2.2)&&true))) then
   some (.inl (false,()))
  else
   again (A,B,C,w64 (D+1),())
 else
  some (.inr ())
def gK (a0:List aj) (a1:List aj):Option (Bool×Unit):=
 bif ((a0.length:Int)) != ((a1.length:Int)) then
  some (false,())
 else
  aJ (
   iter (X:=ig) (β:=kF) (a0.length+(a1.length+(Int.natAbs ((a0.length:Int))+(Int.natAbs (0:Int)+2)))) (a0,a1,(a0.length:Int),0,()) (ia)) fun _=>
  some (true,())
abbrev iM:Type:=(List ak)×(List ak)×Int×Int×Unit
abbrev ld:Type:=((Bool×Unit) ⊕ Unit)
def iL (x1:iM) (again:iM->Option ld):Option ld:=
 match x1 with
 | (A,B,C,D,_)=>
 bif decide (D<C) then
  (idx A D).bind fun y2=>
  (idx B D).bind fun y3=>
  bif !((y2.1==y3.1)&&(((y2.2.1==y3.2.1)&&((y2.2.2==y3.2.2)&&true))&&true)) then
   some (.inl (false,()))
  else
   again (A,B,C,w64 (D+1),())
 else
  some (.inr ())
def jN (a0:List ak) (a1:List ak):Option (Bool×Unit):=
 bif ((a0.length:Int)) != ((a1.length:Int)) then
  some (false,())
 else
  aJ (
   iter (X:=iM) (β:=ld) (a0.length+(a1.length+(Int.natAbs ((a0.length:Int))+(Int.natAbs (0:Int)+2)))) (a0,a1,(a0.length:Int),0,()) (iL)) fun _=>
  some (true,())
abbrev ua:Type:=(List aa)×Int×Int×Bys×Bys×Int×Int×Int×Bool×(List ak)×(List aa)×(List aj)×Bys×Bys×Int×Int×Int×Bool×(List ak)×(List aa)×(List aj)×Unit
abbrev Dz:Type:=((Bool×Unit) ⊕ (Bys×Bys×Int×Int×Int×Bool×(List ak)×(List aa)×(List aj)×Bys×Bys×Int×Int×Int×Bool×(List ak)×(List aa)×(List aj)×Unit))
def yN (x1:ua) (again:ua->Option Dz):Option Dz:=
 match x1 with
 | (A,B,C,D,E,F,G,H,I,J,K,L,M,N,O,P,Q,R,S,T,U,_)=>
 bif decide (C<B) then
  (idx A C).bind fun y2=>
  (idx T C).bind fun y3=>
  bif y2.1 != y3.1 then
   some (.inl (false,()))
  else
   bif y2.2.1 != y3.2.1 then
    some (.inl (false,()))
   else
    bif !(y2.2.2.1==y3.2.2.1) then
     some (.inl (false,()))
    else
     bif !((y2.2.2.2.1.1==y3.2.2.2.1.1)&&((y2.2.2.2.1.2==y3.2.2.2.1.2)&&true)) then
      some (.inl (false,()))
     else
      bif !(y2.2.2.2.2.1==y3.2.2.2.2.1) then
       some (.inl (false,()))
      else
       bif !((y2.2.2.2.2.2.1.1==y3.2.2.2.2.2.1.1)&&((y2.2.2.2.2.2.1.2==y3.2.2.2.2.2.1.2)&&true)) then
        some (.inl (false,()))
       else
        bif y2.2.2.2.2.2.2.1 != y3.2.2.2.2.2.2.1 then
         some (.inl (false,()))
        else
         bif !(y2.2.2.2.2.2.2.2.2==y3.2.2.2.2.2.2.2.2) then
          some (.inl (false,()))
         else
          (gK y2.2.2.2.2.2.2.2.1 y3.2.2.2.2.2.2.2.1).bind fun r4=>
          bif !r4.1 then
           some (.inl (false,()))
          else
           again (A,B,w64 (C+1),D,E,F,G,H,I,J,K,L,M,N,O,P,Q,R,S,T,U,())
 else
  some (.inr (D,E,F,G,H,I,J,K,L,M,N,O,P,Q,R,S,T,U,()))
def FQ (a0:ai) (a1:ai):Option (Bool×Unit):=
 bif !(a0.1==a1.1) then
  some (false,())
 else
  bif !(a0.2.1==a1.2.1) then
   some (false,())
  else
   bif a0.2.2.1 != a1.2.2.1 then
    some (false,())
   else
    bif a0.2.2.2.1 != a1.2.2.2.1 then
     some (false,())
    else
     bif a0.2.2.2.2.1 != a1.2.2.2.2.1 then
      some (false,())
     else
      bif !(a0.2.2.2.2.2.1==a1.2.2.2.2.2.1) then
       some (false,())
      else
       bif ((a0.2.2.2.2.2.2.2.1.length:Int)) != ((a1.2.2.2.2.2.2.2.1.length:Int)) then
        some (false,())
       else
        aJ (
         iter (X:=ua) (β:=Dz) (a0.2.2.2.2.2.2.2.1.length+(Int.natAbs ((a0.2.2.2.2.2.2.2.1.length:Int))+(Int.natAbs (0:Int)+(a0.1.length+(a0.2.1.length+(a0.2.2.1.natAbs+(a0.2.2.2.1.natAbs+(a0.2.2.2.2.1.natAbs+(a0.2.2.2.2.2.2.1.length+(a0.2.2.2.2.2.2.2.1.length+(a0.2.2.2.2.2.2.2.2.length+(a1.1.length+(a1.2.1.length+(a1.2.2.1.natAbs+(a1.2.2.2.1.natAbs+(a1.2.2.2.2.1.natAbs+(a1.2.2.2.2.2.2.1.length+(a1.2.2.2.2.2.2.2.1.length+(a1.2.2.2.2.2.2.2.2.length+2))))))))))))))))))) (a0.2.2.2.2.2.2.2.1,(a0.2.2.2.2.2.2.2.1.length:Int),0,a0.1,a0.2.1,a0.2.2.1,a0.2.2.2.1,a0.2.2.2.2.1,a0.2.2.2.2.2.1,a0.2.2.2.2.2.2.1,a0.2.2.2.2.2.2.2.1,a0.2.2.2.2.2.2.2.2,a1.1,a1.2.1,a1.2.2.1,a1.2.2.2.1,a1.2.2.2.2.1,a1.2.2.2.2.2.1,a1.2.2.2.2.2.2.1,a1.2.2.2.2.2.2.2.1,a1.2.2.2.2.2.2.2.2,()) (yN)) fun (_,_,_,_,_,_,A,_,B,_,_,_,_,_,_,C,_,D,_)=>
        (
         Option.bind (jN A C) fun r6=>
         bif r6.1 then
          Option.bind (gK B D) fun r7=>
          some (r7.1,())
         else
          some (false,())).bind fun v8=>
        some (v8.1,())
end Go.Md
