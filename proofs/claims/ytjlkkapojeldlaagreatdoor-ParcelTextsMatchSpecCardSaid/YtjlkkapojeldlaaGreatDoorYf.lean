/-
  The plain models of the functions that the law reaches, fifth part: the readers of an advice. No condition.
-/
import Derived.Test.YtjlkkapojeldlaaGreatDoorYg
import Derived.Test.YtjlkkapojeldlaaGreatDoorYt
set_option linter.all false
namespace Go.Md
open Go.Dn
noncomputable section
def oS (a0:List UInt8):Option ((List UInt8)×Unit):=
 bif a0==[45] then
  some ([],())
 else
  some (a0,())
def kG (a0:List UInt8):Option ((List UInt8)×Unit):=
 bif a0==[] then
  some ([45],())
 else
  some (a0,())
def zA:ai:=([],[],0,[])
def putC:List aa->ay->List aa
 | [],_=>[]
 | [p],c=>[(p.1,p.2.1,p.2.2.1,p.2.2.2++[c])]
 | p::q::r,c=>p::putC (q::r) c
def wI (s:List UInt8):List UInt8:=bif s==[45] then [] else s
def rdW (a:ai) (first:Bool) (w:List (List UInt8)):Option ai:=
 bif first then
  (bif w.headD []==[97,100,118,105,99,101]&&(w.length==4&&wO (w.getD 3 [])) then some (w.getD 1 [],w.getD 2 [],GH (w.getD 3 []),a.2.2.2) else none)
 else bif w.headD []==[112,97,114,99,101,108]&&w.length==4 then
  (bif (kU (w.getD 3 [])).2==0 then some (a.1,a.2.1,a.2.2.1,a.2.2.2++[(w.getD 1 [],wI (w.getD 2 []),(kU (w.getD 3 [])).1,[])]) else none)
 else bif w.headD []==[99,111,110,116,101,110,116]&&(w.length==5&& !a.2.2.2.isEmpty) then
  (bif (kU (w.getD 4 [])).2==0 then some (a.1,a.2.1,a.2.2.1,putC a.2.2.2 (w.getD 1 [],w.getD 2 [],wI (w.getD 3 []),(kU (w.getD 4 [])).1)) else none)
 else none
def rdL (a:ai) (first:Bool) (s:List UInt8):Option ai:=bif nA (aS 32 s) then rdW a first (aS 32 s) else none
def pGo (e:Bool):List (List UInt8)->Nat->ai->ai ⊕ Nat
 | [],_,a=> .inl a
 | s::r,i,a=>match rdL a (i==0) s with
  | none=> .inr (i+1)
  | some b=>bif !e&&r.isEmpty then .inr (i+1) else pGo e r (i+1) b
def mZ (t:List UInt8):Option (ai×Int×Int×Unit):=
 bif decide ((300000:Int)<t.length) then some (zA,0,2,()) else
 Option.bind (lM t) fun r=>
 bif r.1.isEmpty then some (zA,1,10,()) else
 match pGo r.2.1 r.1 0 zA with
 | .inr n=>some (zA,(n:Int),10,())
 | .inl a=>Option.bind (cg a) fun q=>bif q.1 != 0 then some (zA,0,q.1,()) else some (a,0,0,())
def contTexts:List ay->Option (List UInt8)
 | []=>some []
 | c::r=>Option.bind (kG c.2.2.1) fun d=>Option.bind (fA c.2.2.2) fun q=>Option.bind (gv [[99,111,110,116,101,110,116],c.1,c.2.1,d.1,q.1]) fun s=>Option.bind (contTexts r) fun t=>some (s.1++t)
def uj (p:aa):Option (List UInt8):=
 Option.bind (kG p.2.1) fun d=>Option.bind (fA p.2.2.1) fun q=>Option.bind (gv [[112,97,114,99,101,108],p.1,d.1,q.1]) fun s=>Option.bind (contTexts p.2.2.2) fun t=>some (s.1++t)
abbrev dy:Type:=(List ay)×(List ay)×Int×Int×Unit
abbrev eA:Type:=((Bool×Unit) ⊕ Unit)
def ez (x1:dy) (again:dy->Option eA):Option eA:=
 bif decide (x1.2.2.2.1<x1.2.2.1) then
  Option.bind (idx x1.1 x1.2.2.2.1) fun y2=>
  Option.bind (idx x1.2.1 x1.2.2.2.1) fun y3=>
  bif !((y2.1==y3.1)&&((y2.2.1==y3.2.1)&&((y2.2.2.1==y3.2.2.1)&&(((y2.2.2.2.1==y3.2.2.2.1)&&((y2.2.2.2.2==y3.2.2.2.2)&&true))&&true)))) then
   some (Sum.inl (false,()))
  else
   again (x1.1,x1.2.1,x1.2.2.1,w64 (x1.2.2.2.1+1),())
 else
  some (Sum.inr ())
def fO (a0:List ay) (a1:List ay):Option (Bool×Unit):=
 bif ((List.length a0:Int)) != ((List.length a1:Int)) then
  some (false,())
 else
  aP (β:=(Bool×Unit)) (γ:=Unit) (
   iter (X:=dy) (β:=eA) (List.length a0+(List.length a1+(Int.natAbs ((List.length a0:Int))+(Int.natAbs (0:Int)+2)))) (a0,a1,(List.length a0:Int),0,()) (ez)) fun _=>
  some (true,())
abbrev gM:Type:=(List aa)×(List aa)×Int×Int×Unit
abbrev jY:Type:=((Bool×Unit) ⊕ Unit)
def jX (x1:gM) (again:gM->Option jY):Option jY:=
 bif decide (x1.2.2.2.1<x1.2.2.1) then
  Option.bind (idx x1.2.1 x1.2.2.2.1) fun y2=>
  Option.bind (idx x1.1 x1.2.2.2.1) fun y3=>
  bif !(y2.1==y3.1) then
   some (Sum.inl (false,()))
  else
   bif !(y2.2.1==y3.2.1) then
    some (Sum.inl (false,()))
   else
    bif !((y2.2.2.1.1==y3.2.2.1.1)&&((y2.2.2.1.2==y3.2.2.1.2)&&true)) then
     some (Sum.inl (false,()))
    else
     Option.bind (fO y2.2.2.2 y3.2.2.2) fun r4=>
     bif !r4.1 then
      some (Sum.inl (false,()))
     else
      again (x1.1,x1.2.1,x1.2.2.1,w64 (x1.2.2.2.1+1),())
 else
  some (Sum.inr ())
def nI (a0:List aa) (a1:List aa):Option (Bool×Unit):=
 bif ((List.length a0:Int)) != ((List.length a1:Int)) then
  some (false,())
 else
  aP (β:=(Bool×Unit)) (γ:=Unit) (
   iter (X:=gM) (β:=jY) (List.length a1+(List.length a0+(Int.natAbs ((List.length a0:Int))+(Int.natAbs (0:Int)+2)))) (a1,a0,(List.length a0:Int),0,()) (jX)) fun _=>
  some (true,())
def BO (a0:ai) (a1:ai):Option (Bool×Unit):=
 Option.bind (
  bif a0.1==a1.1 then
   bif a0.2.1==a1.2.1 then
    bif a0.2.2.1==a1.2.2.1 then
     Option.bind (nI a0.2.2.2 a1.2.2.2) fun r1=>
     some (r1.1,())
    else
     some (false,())
   else
    some (false,())
  else
   some (false,())) fun v2=>
 some (v2.1,())
def DU (a0:List UInt8):Option ((List UInt8)×Unit):=
 bif a0==[] then
  some ([45],())
 else
  some (a0,())
def qh (a0:ah):Option ((List UInt8)×Unit):=
 Option.bind (EV a0) fun r1=>
 some (r1.1,())
abbrev sM:Type:=(List UInt8)×(List aa)×Int×Int×(List ay)×Int×Int×Unit
abbrev xF:Type:=((((List UInt8)×Int×Unit) ⊕ ((List UInt8)×Unit)) ⊕ ((List UInt8)×(List aa)×Int×Int×Unit))
def sL (x1:sM) (again:sM->Option xF):Option xF:=
 bif decide (x1.2.2.2.2.2.2.1<x1.2.2.2.2.2.1) then
  Option.bind (idx x1.2.2.2.2.1 x1.2.2.2.2.2.2.1) fun y2=>
  chk (decide (List.length [99,111,110,116,101,110,116,32]+y2.1.length<=maxLen)) <|
  chk (decide (List.length ([99,111,110,116,101,110,116,32]++y2.1)+List.length [32]<=maxLen)) <|
  chk (decide (List.length (([99,111,110,116,101,110,116,32]++y2.1)++[32])+y2.2.1.length<=maxLen)) <|
  chk (decide (List.length ((([99,111,110,116,101,110,116,32]++y2.1)++[32])++y2.2.1)+List.length [32]<=maxLen)) <|
  Option.bind (DU y2.2.2.1) fun r3=>
  chk (decide (List.length (((([99,111,110,116,101,110,116,32]++y2.1)++[32])++y2.2.1)++[32])+r3.1.length<=maxLen)) <|
  chk (decide (List.length ((((([99,111,110,116,101,110,116,32]++y2.1)++[32])++y2.2.1)++[32])++r3.1)+List.length [32]<=maxLen)) <|
  Option.bind (qh y2.2.2.2) fun r4=>
  chk (decide (List.length (((((([99,111,110,116,101,110,116,32]++y2.1)++[32])++y2.2.1)++[32])++r3.1)++[32])+r4.1.length<=maxLen)) <|
  chk (decide (List.length ((((((([99,111,110,116,101,110,116,32]++y2.1)++[32])++y2.2.1)++[32])++r3.1)++[32])++r4.1)+List.length [10]<=maxLen)) <|
  chk (decide (x1.1.length+List.length (((((((([99,111,110,116,101,110,116,32]++y2.1)++[32])++y2.2.1)++[32])++r3.1)++[32])++r4.1)++[10])<=maxLen)) <|
  again (x1.1++(((((((([99,111,110,116,101,110,116,32]++y2.1)++[32])++y2.2.1)++[32])++r3.1)++[32])++r4.1)++[10]),x1.2.1,x1.2.2.1,x1.2.2.2.1,x1.2.2.2.2.1,x1.2.2.2.2.2.1,w64 (x1.2.2.2.2.2.2.1+1),())
 else
  some (Sum.inr (x1.1,x1.2.1,x1.2.2.1,x1.2.2.2.1,()))
abbrev qg:Type:=(List UInt8)×(List aa)×Int×Int×Unit
abbrev zo:Type:=(((List UInt8)×Int×Unit) ⊕ ((List UInt8)×Unit))
def qd (x1:qg) (again:qg->Option zo):Option zo:=
 bif decide (x1.2.2.2.1<x1.2.2.1) then
  Option.bind (idx x1.2.1 x1.2.2.2.1) fun y2=>
  chk (decide (List.length [112,97,114,99,101,108,32]+y2.1.length<=maxLen)) <|
  chk (decide (List.length ([112,97,114,99,101,108,32]++y2.1)+List.length [32]<=maxLen)) <|
  Option.bind (DU y2.2.1) fun r3=>
  chk (decide (List.length (([112,97,114,99,101,108,32]++y2.1)++[32])+r3.1.length<=maxLen)) <|
  chk (decide (List.length ((([112,97,114,99,101,108,32]++y2.1)++[32])++r3.1)+List.length [32]<=maxLen)) <|
  Option.bind (qh y2.2.2.1) fun r4=>
  chk (decide (List.length (((([112,97,114,99,101,108,32]++y2.1)++[32])++r3.1)++[32])+r4.1.length<=maxLen)) <|
  chk (decide (List.length ((((([112,97,114,99,101,108,32]++y2.1)++[32])++r3.1)++[32])++r4.1)+List.length [10]<=maxLen)) <|
  chk (decide (x1.1.length+List.length (((((([112,97,114,99,101,108,32]++y2.1)++[32])++r3.1)++[32])++r4.1)++[10])<=maxLen)) <|
  aP (β:=(((List UInt8)×Int×Unit) ⊕ ((List UInt8)×Unit))) (γ:=((List UInt8)×(List aa)×Int×Int×Unit)) (
   iter (X:=sM) (β:=xF) (List.length (x1.1++(((((([112,97,114,99,101,108,32]++y2.1)++[32])++r3.1)++[32])++r4.1)++[10]))+(x1.2.1.length+(x1.2.2.1.natAbs+(x1.2.2.2.1.natAbs+(y2.2.2.2.length+(Int.natAbs ((y2.2.2.2.length:Int))+(Int.natAbs (0:Int)+2))))))) (x1.1++(((((([112,97,114,99,101,108,32]++y2.1)++[32])++r3.1)++[32])++r4.1)++[10]),x1.2.1,x1.2.2.1,x1.2.2.2.1,y2.2.2.2,(y2.2.2.2.length:Int),0,()) (sL)) fun v5=>
  again (v5.1,v5.2.1,v5.2.2.1,w64 (v5.2.2.2.1+1),())
 else
  some (Sum.inr (x1.1,()))
def BP (a0:ai):Option ((List UInt8)×Int×Unit):=
 Option.bind (nH a0) fun r1=>
 bif r1.1 != 0 then
  some ([],r1.1,())
 else
  chk (decide (List.length [97,100,118,105,99,101,32]+a0.1.length<=maxLen)) <|
  chk (decide (List.length ([97,100,118,105,99,101,32]++a0.1)+List.length [32]<=maxLen)) <|
  chk (decide (List.length (([97,100,118,105,99,101,32]++a0.1)++[32])+a0.2.1.length<=maxLen)) <|
  chk (decide (List.length ((([97,100,118,105,99,101,32]++a0.1)++[32])++a0.2.1)+List.length [32]<=maxLen)) <|
  Option.bind (strconv_Itoa a0.2.2.1) fun r2=>
  chk (decide (List.length (((([97,100,118,105,99,101,32]++a0.1)++[32])++a0.2.1)++[32])+r2.1.length<=maxLen)) <|
  chk (decide (List.length ((((([97,100,118,105,99,101,32]++a0.1)++[32])++a0.2.1)++[32])++r2.1)+List.length [10]<=maxLen)) <|
  chk (decide (List.length ([]:List UInt8)+List.length (((((([97,100,118,105,99,101,32]++a0.1)++[32])++a0.2.1)++[32])++r2.1)++[10])<=maxLen)) <|
  aP (β:=((List UInt8)×Int×Unit)) (γ:=((List UInt8)×Unit)) (
   iter (X:=qg) (β:=zo) (List.length ([]++(((((([97,100,118,105,99,101,32]++a0.1)++[32])++a0.2.1)++[32])++r2.1)++[10]))+(a0.2.2.2.length+(Int.natAbs ((a0.2.2.2.length:Int))+(Int.natAbs (0:Int)+2)))) ([]++(((((([97,100,118,105,99,101,32]++a0.1)++[32])++a0.2.1)++[32])++r2.1)++[10]),a0.2.2.2,(a0.2.2.2.length:Int),0,()) (qd)) fun v12=>
  bif decide (((v12.1.length:Int))>300000) then
   some ([],2,())
  else
   some (v12.1,0,())
end
end Go.Md
