/-
  The plain models of the functions that the law reaches, fifth part: the readers of an advice. No condition.
-/
import Derived.Test.YtjlkkapojeldlaaGreatDoorYg
import Derived.Test.YtjlkkapojeldlaaGreatDoorYt
set_option linter.all false
namespace Go.Md
open Go.Dn
noncomputable section
def oA (a0:List UInt8):Option ((List UInt8)×Unit):=
 bif a0==[45] then
  some ([],())
 else
  some (a0,())
abbrev vj:Type:=(List UInt8)×Int×Int×Int×Unit
abbrev vi:Type:=((Int×Bool×Unit) ⊕ (Int×Unit))
def Kn (x1:vj) (again:vj->Option vi):Option vi:=
 bif decide (x1.2.2.2.1<x1.2.2.1) then
  Option.bind (dI x1.1 x1.2.2.2.1) fun c2=>
  bif decide ((c2.toNat:Int)<48) then
   some (Sum.inl (0,false,()))
  else
   Option.bind (dI x1.1 x1.2.2.2.1) fun c3=>
   bif decide ((c3.toNat:Int)>57) then
    some (Sum.inl (0,false,()))
   else
    Option.bind (dI x1.1 x1.2.2.2.1) fun c4=>
    let n5:Int:=w64 ((w64 (10*x1.2.1))+(w64 (wu8 ((c4.toNat:Int) - 48))))
    again (x1.1,n5,x1.2.2.1,w64 (x1.2.2.2.1+1),())
 else
  some (Sum.inr (x1.2.1,()))
def rV (a0:List UInt8):Option (Int×Bool×Unit):=
 Option.bind (
  bif a0==[] then
   some (true,())
  else
   bif decide (((List.length a0:Int))>16) then
    some (true,())
   else
    bif decide (((List.length a0:Int))>1) then
     Option.bind (dI a0 0) fun c1=>
     some ((c1.toNat:Int)==48,())
    else
     some (false,())) fun v2=>
 bif v2.1 then
  some (0,false,())
 else
  aT (β:=(Int×Bool×Unit)) (γ:=(Int×Unit)) (
   iter (X:=vj) (β:=vi) (List.length a0+(Int.natAbs (0:Int)+(Int.natAbs ((List.length a0:Int))+(Int.natAbs (0:Int)+2)))) (a0,0,(List.length a0:Int),0,()) (Kn)) fun v8=>
  some (v8.1,true,())
def tu (a0:List UInt8):Option ((List UInt8)×Unit):=
 bif a0==[45] then
  some ([],())
 else
  some (a0,())
def zA:ai:=([],[],0,[])
def putC:List aa->aJ->List aa
 | [],_=>[]
 | [p],c=>[(p.1,p.2.1,p.2.2.1,p.2.2.2++[c])]
 | p::q::r,c=>p::putC (q::r) c
def xF (s:List UInt8):List UInt8:=bif s==[45] then [] else s
def rdW (a:ai) (first:Bool) (w:List (List UInt8)):Option ai:=
 bif first then
  (bif w.headD []==[97,100,118,105,99,101]&&(w.length==4&&vN (w.getD 3 [])) then some (w.getD 1 [],w.getD 2 [],Ft (w.getD 3 []),a.2.2.2) else none)
 else bif w.headD []==[112,97,114,99,101,108]&&w.length==4 then
  (bif (kF (w.getD 3 [])).2==0 then some (a.1,a.2.1,a.2.2.1,a.2.2.2++[(w.getD 1 [],xF (w.getD 2 []),(kF (w.getD 3 [])).1,[])]) else none)
 else bif w.headD []==[99,111,110,116,101,110,116]&&(w.length==5&& !a.2.2.2.isEmpty) then
  (bif (kF (w.getD 4 [])).2==0 then some (a.1,a.2.1,a.2.2.1,putC a.2.2.2 (w.getD 1 [],w.getD 2 [],xF (w.getD 3 []),(kF (w.getD 4 [])).1)) else none)
 else none
def rdL (a:ai) (first:Bool) (s:List UInt8):Option ai:=bif kD (aR 32 s) then rdW a first (aR 32 s) else none
def pGo (e:Bool):List (List UInt8)->Nat->ai->ai ⊕ Nat
 | [],_,a=> .inl a
 | s::r,i,a=>match rdL a (i==0) s with
  | none=> .inr (i+1)
  | some b=>bif !e&&r.isEmpty then .inr (i+1) else pGo e r (i+1) b
def rGo:Nat->List UInt8->Nat->ai->ai ⊕ Nat
 | 0,_,_,a=> .inl a
 | f+1,t,n,a=>bif t==[] then .inl a else (match rdL a (n==1) (cW 10 t).1 with
  | none=> .inr n
  | some b=>bif (cW 10 t).2.2 then rGo f (cW 10 t).2.1 (n+1) b else .inr n)
def mK (t:List UInt8):Option (ai×Int×Int×Unit):=
 bif decide ((300000:Int)<t.length) then some (zA,0,2,()) else
 Option.bind (lz t) fun r=>
 bif r.1.isEmpty then some (zA,1,10,()) else
 match pGo r.2.1 r.1 0 zA with
 | .inr n=>some (zA,(n:Int),10,())
 | .inl a=>Option.bind (dQ a) fun q=>bif q.1 != 0 then some (zA,0,q.1,()) else some (a,0,0,())
def tr (t:List UInt8):Option (ai×Int×Int×Unit):=
 bif decide ((300000:Int)<t.length) then some (zA,0,2,()) else
 bif t==[] then some (zA,1,10,()) else
 match rGo t.length t 1 zA with
 | .inr n=>some (zA,(n:Int),10,())
 | .inl a=>Option.bind (fO a) fun q=>bif q.1 != 0 then some (zA,0,q.1,()) else some (a,0,0,())
abbrev dx:Type:=(List aJ)×(List aJ)×Int×Int×Unit
abbrev ef:Type:=((Bool×Unit) ⊕ Unit)
def dZ (x1:dx) (again:dx->Option ef):Option ef:=
 bif decide (x1.2.2.2.1<x1.2.2.1) then
  Option.bind (idx x1.1 x1.2.2.2.1) fun y2=>
  Option.bind (idx x1.2.1 x1.2.2.2.1) fun y3=>
  bif !((y2.1==y3.1)&&((y2.2.1==y3.2.1)&&((y2.2.2.1==y3.2.2.1)&&(((y2.2.2.2.1==y3.2.2.2.1)&&((y2.2.2.2.2==y3.2.2.2.2)&&true))&&true)))) then
   some (Sum.inl (false,()))
  else
   again (x1.1,x1.2.1,x1.2.2.1,w64 (x1.2.2.2.1+1),())
 else
  some (Sum.inr ())
def fP (a0:List aJ) (a1:List aJ):Option (Bool×Unit):=
 bif ((List.length a0:Int)) != ((List.length a1:Int)) then
  some (false,())
 else
  aT (β:=(Bool×Unit)) (γ:=Unit) (
   iter (X:=dx) (β:=ef) (List.length a0+(List.length a1+(Int.natAbs ((List.length a0:Int))+(Int.natAbs (0:Int)+2)))) (a0,a1,(List.length a0:Int),0,()) (dZ)) fun _=>
  some (true,())
abbrev gI:Type:=(List aa)×(List aa)×Int×Int×Unit
abbrev jI:Type:=((Bool×Unit) ⊕ Unit)
def jH (x1:gI) (again:gI->Option jI):Option jI:=
 bif decide (x1.2.2.2.1<x1.2.2.1) then
  Option.bind (idx x1.2.1 x1.2.2.2.1) fun y2=>
  Option.bind (idx x1.1 x1.2.2.2.1) fun y3=>
  bif !(y2.1==y3.1) then
   some (Sum.inl (false,()))
  else
   bif !(y2.2.1==y3.2.1) then
    some (Sum.inl (false,()))
   else
    bif !((y2.2.2.1.1==y3.2.2.1.1)&&((y2.2.2.1.2==y3.2.2.1.2)&&true)) then
     some (Sum.inl (false,()))
    else
     Option.bind (fP y2.2.2.2 y3.2.2.2) fun r4=>
     bif !r4.1 then
      some (Sum.inl (false,()))
     else
      again (x1.1,x1.2.1,x1.2.2.1,w64 (x1.2.2.2.1+1),())
 else
  some (Sum.inr ())
def mY (a0:List aa) (a1:List aa):Option (Bool×Unit):=
 bif ((List.length a0:Int)) != ((List.length a1:Int)) then
  some (false,())
 else
  aT (β:=(Bool×Unit)) (γ:=Unit) (
   iter (X:=gI) (β:=jI) (List.length a1+(List.length a0+(Int.natAbs ((List.length a0:Int))+(Int.natAbs (0:Int)+2)))) (a1,a0,(List.length a0:Int),0,()) (jH)) fun _=>
  some (true,())
def AQ (a0:ai) (a1:ai):Option (Bool×Unit):=
 Option.bind (
  bif a0.1==a1.1 then
   bif a0.2.1==a1.2.1 then
    bif a0.2.2.1==a1.2.2.1 then
     Option.bind (mY a0.2.2.2 a1.2.2.2) fun r1=>
     some (r1.1,())
    else
     some (false,())
   else
    some (false,())
  else
   some (false,())) fun v2=>
 some (v2.1,())
def fJ (a0:List UInt8):Option (Bool×Unit):=
 Option.bind (mK a0) fun r1=>
 Option.bind (tr a0) fun r2=>
 Option.bind (
  bif r1.2.2.1==r2.2.2.1 then
   bif r1.2.1==r2.2.1 then
    Option.bind (AQ r1.1 r2.1) fun r3=>
    bif r3.1 then
     Option.bind (Cz) fun r4=>
     some (r4.1,())
    else
     some (false,())
   else
    some (false,())
  else
   some (false,())) fun v5=>
 some (v5.1,())
end
end Go.Md
