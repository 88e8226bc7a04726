/-
  The plain models of the functions that the law reaches, third part. No condition.
-/
import Derived.Test.YtnamfglkolhhgadGreatDoorYn
import Derived.Test.YtnamfglkolhhgadGreatDoorYa
import Derived.Test.YtnamfglkolhhgadGreatDoorYd
set_option linter.all false
set_option linter.all false
namespace Go.Md
open Go.Dn
def agk (a b:List UInt8×List UInt8):Int:=bif Lib.compareBytes a.1 b.1==0 then Lib.compareBytes a.2 b.2 else Lib.compareBytes a.1 b.1
noncomputable section
abbrev az:Ty:=(.st (.pair .str (.pair .str aY)))
abbrev ai:Type:=(List UInt8)×(List UInt8)×ak
end
end Go.Md
set_option linter.all false
namespace Go.Md
open Go.Dn
noncomputable section
abbrev mS:Type:=(List ai)×Int×Int×(List (bD×Bool))×Unit
abbrev sH:Type:=((Int×Unit) ⊕ Unit)
def mR (x1:mS) (again:mS→Option sH):Option sH:=
 bif decide (x1.2.2.1<x1.2.1) then
  Option.bind (idx x1.1 x1.2.2.1) fun y2=>
  Option.bind (gj y2.1) fun r3=>
  bif !r3.1 then
   some (Sum.inl (5,()))
  else
   Option.bind (gj y2.2.1) fun r4=>
   bif !r4.1 then
    some (Sum.inl (5,()))
   else
    bif Option.getD (α:=Bool) (cw (k:=bN) (v:= .bool) x1.2.2.2.1 (y2.1,y2.2.1)) false then
     some (Sum.inl (7,()))
    else
     Option.bind (ck y2.2.2 false) fun r5=>
     bif r5.1 != 0 then
      some (Sum.inl (r5.1,()))
     else
      again (x1.1,x1.2.1,w64 (x1.2.2.1+1),oa (k:=bN) (v:= .bool) x1.2.2.2.1 (y2.1,y2.2.1) true,())
 else
  some (Sum.inr ())
def qF (a0:List ai):Option (Int×Unit):=
 aK (β:=(Int×Unit)) (γ:=Unit) (
  iter (X:=mS) (β:=sH) (List.length a0+(Int.natAbs ((List.length a0:Int))+(Int.natAbs (0:Int)+(List.length ([]:List (bD×Bool))+2)))) (a0,(List.length a0:Int),0,[],()) (mR)) fun _=>
 some (0,())
def wZ (a0:ai) (a1:ai):Option (Bool×Unit):=
 Option.bind (
  bif a0.1==a1.1 then
   some (a0.2.1==a1.2.1,())
  else
   some (false,())) fun v1=>
 some (v1.1,())
abbrev dx:Type:=(List ai)×ai×Int×Int×Unit
abbrev kO:Type:=((Int×Unit) ⊕ Unit)
def fL (x1:dx) (again:dx→Option kO):Option kO:=
 bif decide (x1.2.2.2.1<x1.2.2.1) then
  Option.bind (idx x1.1 x1.2.2.2.1) fun y2=>
  Option.bind (wZ y2 x1.2.1) fun r3=>
  bif r3.1 then
   some (Sum.inl (x1.2.2.2.1,()))
  else
   again (x1.1,x1.2.1,x1.2.2.1,w64 (x1.2.2.2.1+1),())
 else
  some (Sum.inr ())
def gE (a0:List ai) (a1:ai):Option (Int×Unit):=
 aK (β:=(Int×Unit)) (γ:=Unit) (
  iter (X:=dx) (β:=kO) (List.length a0+(Int.natAbs ((List.length a0:Int))+(Int.natAbs (0:Int)+2))) (a0,a1,(List.length a0:Int),0,()) (fL)) fun _=>
 some ((-1),())
def jH (a0:ak):Option (Int×Unit):=
 Option.bind (iC a0 3) fun r1=>
 Option.bind (tW r1.1 1000000000000000000) fun r2=>
 some (r2.1,())
abbrev mq:Type:=(List ai)×Int×(List Int)×(List ai)×Int×Int×Unit
abbrev AR:Type:=((Int×(List Int)×Int×Unit) ⊕ (Int×(List Int)×Unit))
def pg (x1:mq) (again:mq→Option AR):Option AR:=
 bif decide (x1.2.2.2.2.2.1<x1.2.2.2.2.1) then
  Option.bind (idx x1.2.2.2.1 x1.2.2.2.2.2.1) fun y2=>
  Option.bind (gE x1.1 y2) fun r3=>
  bif decide (r3.1<0) then
   some (Sum.inl (0,[],9,()))
  else
   Option.bind (idx x1.1 r3.1) fun y4=>
   Option.bind (jH y4.2.2) fun r5=>
   chk (decide (((x1.2.2.1.length)+1)*8≤140737488355328)&&decide ((x1.2.2.1.length)+1≤maxLen)) <|
   Option.bind (jH y2.2.2) fun r6=>
   chk (r5.1 != (0:Int)) <|
   let n7:Int:=w64 (Int.tdiv (w64 ((w64 (r6.1+r5.1)) - 1)) r5.1)
   again (x1.1,w64 (x1.2.1+n7),x1.2.2.1++[r5.1],x1.2.2.2.1,x1.2.2.2.2.1,w64 (x1.2.2.2.2.2.1+1),())
 else
  some (Sum.inr (x1.2.1,x1.2.2.1,()))
def vE (a0:List ai) (a1:List ai):Option (Int×(List Int)×Int×Unit):=
 aK (β:=(Int×(List Int)×Int×Unit)) (γ:=(Int×(List Int)×Unit)) (
  iter (X:=mq) (β:=AR) (List.length a1+(Int.natAbs (0:Int)+(List.length ([]:List Int)+(List.length a0+(Int.natAbs ((List.length a0:Int))+(Int.natAbs (0:Int)+2)))))) (a1,0,[],a0,(List.length a0:Int),0,()) (pg)) fun v8=>
 some (v8.1,v8.2.1,0,())
def pe (a0:List UInt8) (a1:Int) (a2:Int):Option (Int×Unit):=
 bif a2==0 then
  some (0,())
 else
  Option.bind (bB a0 a1) fun r1=>
  bif r1.2.1 != 0 then
   some (r1.2.1,())
  else
   Option.bind (yb a0) fun r2=>
   bif decide (a2>(w64 (r2.1 - a1))) then
    some (1,())
   else
    some (0,())
def yI (a0:Int):Option (ak×Unit):=
 Option.bind (qw a0) fun r1=>
 Option.bind (yq r1.1 3) fun r2=>
 some (r2.1,())
abbrev rf:Type:=(List ai)×(List ai)×(List UInt8)×Int×Int×Int×(List (List ai))×Unit
abbrev wY:Type:=(((List aa)×Int×Unit) ⊕ ((List ai)×(List ai)×(List UInt8)×Int×Unit))
def wX (x1:rf) (again:rf→Option wY):Option wY:=
 bif decide (x1.2.2.2.2.2.1<x1.2.2.2.2.1) then
  chk (decide (0≤x1.2.2.2.2.2.1)&&decide (x1.2.2.2.2.2.1<(x1.2.2.2.2.2.2.1.length:Int))) <|
  Option.bind (x1.2.2.2.2.2.2.1[x1.2.2.2.2.2.1.toNat]?) fun y2=>
  Option.bind (qF y2) fun r3=>
  bif r3.1 != 0 then
   some (Sum.inl ([],r3.1,()))
  else
   again (x1.1,x1.2.1,x1.2.2.1,x1.2.2.2.1,x1.2.2.2.2.1,w64 (x1.2.2.2.2.2.1+1),x1.2.2.2.2.2.2.1,())
 else
  some (Sum.inr (x1.1,x1.2.1,x1.2.2.1,x1.2.2.2.1,()))
abbrev uP:Type:=(List UInt8)×Int×(List aa)×Int×Int×(List ai)×Int×Int×(List UInt8)×(List UInt8)×Int×Int×(List Int)×Unit
abbrev uO:Type:=((((List aa)×Int×Unit) ⊕ ((List aa)×Unit)) ⊕ ((List UInt8)×Int×(List aa)×(List ai)×Int×Int×(List Int)×Unit))
def oZ (x1:uP) (again:uP→Option uO):Option uO:=
 bif decide (x1.2.2.2.2.1>0) then
  Option.bind (bB x1.1 (w64 (x1.2.1+((x1.2.2.1.length:Int))))) fun r2=>
  chk (decide (0≤x1.2.2.2.1)&&decide (x1.2.2.2.1<(x1.2.2.2.2.2.2.2.2.2.2.2.2.1.length:Int))) <|
  Option.bind (x1.2.2.2.2.2.2.2.2.2.2.2.2.1[x1.2.2.2.1.toNat]?) fun y3=>
  Option.bind (yI (if y3<x1.2.2.2.2.1 then y3 else x1.2.2.2.2.1)) fun r4=>
  chk (decide (((x1.2.2.1.length)+1)*72≤140737488355328)&&decide ((x1.2.2.1.length)+1≤maxLen)) <|
  chk (decide (0≤x1.2.2.2.1)&&decide (x1.2.2.2.1<(x1.2.2.2.2.2.2.2.2.2.2.2.2.1.length:Int))) <|
  Option.bind (x1.2.2.2.2.2.2.2.2.2.2.2.2.1[x1.2.2.2.1.toNat]?) fun y5=>
  again (x1.1,x1.2.1,x1.2.2.1++[(r2.1,[],(0,0),[(x1.2.2.2.2.2.2.2.2.1,x1.2.2.2.2.2.2.2.2.2.1,[],r4.1)])],x1.2.2.2.1,w64 (x1.2.2.2.2.1 - y5),x1.2.2.2.2.2.1,x1.2.2.2.2.2.2.1,x1.2.2.2.2.2.2.2.1,x1.2.2.2.2.2.2.2.2.1,x1.2.2.2.2.2.2.2.2.2.1,x1.2.2.2.2.2.2.2.2.2.2.1,x1.2.2.2.2.2.2.2.2.2.2.2.1,x1.2.2.2.2.2.2.2.2.2.2.2.2.1,())
 else
  some (Sum.inr (x1.1,x1.2.1,x1.2.2.1,x1.2.2.2.2.2.1,x1.2.2.2.2.2.2.1,x1.2.2.2.2.2.2.2.1,x1.2.2.2.2.2.2.2.2.2.2.2.2.1,()))
abbrev o9:Type:=(List UInt8)×Int×(List aa)×(List ai)×Int×Int×(List Int)×Unit
abbrev o8:Type:=(((List aa)×Int×Unit) ⊕ ((List aa)×Unit))
def jW (x1:o9) (again:o9→Option o8):Option o8:=
 bif decide (x1.2.2.2.2.2.1<x1.2.2.2.2.1) then
  Option.bind (idx x1.2.2.2.1 x1.2.2.2.2.2.1) fun y2=>
  Option.bind (jH y2.2.2) fun r3=>
  aK (β:=(((List aa)×Int×Unit) ⊕ ((List aa)×Unit))) (γ:=((List UInt8)×Int×(List aa)×(List ai)×Int×Int×(List Int)×Unit)) (
   iter (X:=uP) (β:=uO) (x1.1.length+(x1.2.1.natAbs+(x1.2.2.1.length+(x1.2.2.2.2.2.1.natAbs+(r3.1.natAbs+(x1.2.2.2.1.length+(x1.2.2.2.2.1.natAbs+(x1.2.2.2.2.2.1.natAbs+(y2.1.length+(y2.2.1.length+(y2.2.2.1.natAbs+(y2.2.2.2.natAbs+(x1.2.2.2.2.2.2.1.length+2))))))))))))) (x1.1,x1.2.1,x1.2.2.1,x1.2.2.2.2.2.1,r3.1,x1.2.2.2.1,x1.2.2.2.2.1,x1.2.2.2.2.2.1,y2.1,y2.2.1,y2.2.2.1,y2.2.2.2,x1.2.2.2.2.2.2.1,()) (oZ)) fun v4=>
  again (v4.1,v4.2.1,v4.2.2.1,v4.2.2.2.1,v4.2.2.2.2.1,w64 (v4.2.2.2.2.2.1+1),v4.2.2.2.2.2.2.1,())
 else
  some (Sum.inr (x1.2.2.1,()))
def CE (a0:List ai) (a1:List ai) (a2:List UInt8) (a3:Int):Option ((List aa)×Int×Unit):=
 bif decide (((List.length a0:Int))>100) then
  some ([],2,())
 else
  bif decide (((List.length a1:Int))>100) then
   some ([],2,())
  else
   aK (β:=((List aa)×Int×Unit)) (γ:=((List ai)×(List ai)×(List UInt8)×Int×Unit)) (
    iter (X:=rf) (β:=wY) (List.length a0+(List.length a1+(List.length a2+(Int.natAbs a3+(Int.natAbs ((List.length [a0,a1]:Int))+(Int.natAbs (0:Int)+(List.length ([a0,a1]:List (List ai))+2))))))) (a0,a1,a2,a3,(List.length [a0,a1]:Int),0,[a0,a1],()) (wX)) fun v4=>
   Option.bind (vE v4.1 v4.2.1) fun r5=>
   bif r5.2.2.1 != 0 then
    some ([],r5.2.2.1,())
   else
    Option.bind (pe v4.2.2.1 v4.2.2.2.1 r5.1) fun r6=>
    bif r6.1 != 0 then
     some ([],r6.1,())
    else
     bif decide (r5.1>500) then
      some ([],2,())
     else
      aK (β:=((List aa)×Int×Unit)) (γ:=((List aa)×Unit)) (
       iter (X:=o9) (β:=o8) (v4.2.2.1.length+(v4.2.2.2.1.natAbs+(List.length ([]:List aa)+(v4.1.length+(Int.natAbs ((v4.1.length:Int))+(Int.natAbs (0:Int)+(r5.2.1.length+2))))))) (v4.2.2.1,v4.2.2.2.1,[],v4.1,(v4.1.length:Int),0,r5.2.1,()) (jW)) fun v16=>
      some (v16.1,0,())
end
end Go.Md
set_option linter.all false
namespace Go.Md
open Go.Dn
noncomputable def gH (l:List aa) (_:Unit):Option (List aa×Unit):=MY (fun _=>true) (fun a b=>Lib.compareBytes a.1 b.1) l
abbrev nH:List aa→Int→List aa→Option (List aa×Unit):=Ei 72
noncomputable section
abbrev aS:Ty:=(.st (.pair tI bp))
abbrev ah:Type:=Int×aL
def xe (a0:Int) (a1:Int) (a2:Int):Option (Bool×Unit):=
 Option.bind (
  bif decide (a1≤a0) then
   some (decide (a0≤a2),())
  else
   some (false,())) fun v1=>
 some (v1.1,())
abbrev pO:Type:=Int×(List UInt8)×Int×Unit
abbrev uV:Type:=(((List UInt8)×Int×Unit) ⊕ Unit)
def uU (x1:pO) (again:pO→Option uV):Option uV:=
 bif decide (x1.2.2.1<100) then
  chk (decide (0≤(w32 (w64 (48+(Int.tmod x1.2.2.1 10)))))&&decide ((w32 (w64 (48+(Int.tmod x1.2.2.1 10))))<128)) <|
  chk (decide (x1.2.1.length+List.length ([UInt8.ofNat (Int.toNat (w32 (w64 (48+(Int.tmod x1.2.2.1 10)))))])≤maxLen)) <|
  bif x1.1==4 then
   chk (decide (0≤(0:Int))&&decide ((0:Int)≤2)&&decide (2≤(x1.2.1.length:Int))) <|
   let n2:Int:=w32 (w64 (48+(w64 (Int.tdiv x1.2.2.1 10))))
   chk (decide (0≤n2)&&decide (n2<128)) <|
   chk (decide (List.length (List.drop 0 (List.take (Int.toNat 2) x1.2.1))+List.length ([UInt8.ofNat (Int.toNat n2)])≤maxLen)) <|
   chk (decide (0≤(w32 (w64 (48+(Int.tmod x1.2.2.1 10)))))&&decide ((w32 (w64 (48+(Int.tmod x1.2.2.1 10))))<128)) <|
   chk (decide (List.length ((List.drop 0 (List.take (Int.toNat 2) x1.2.1))++([UInt8.ofNat (Int.toNat n2)]))+List.length ([UInt8.ofNat (Int.toNat (w32 (w64 (48+(Int.tmod x1.2.2.1 10)))))])≤maxLen)) <|
   chk (decide (0≤(2:Int))&&decide ((2:Int)≤((x1.2.1.length:Int)))&&decide (((x1.2.1.length:Int))≤(x1.2.1.length:Int))) <|
   chk (decide (List.length (((List.drop 0 (List.take (Int.toNat 2) x1.2.1))++([UInt8.ofNat (Int.toNat n2)]))++([UInt8.ofNat (Int.toNat (w32 (w64 (48+(Int.tmod x1.2.2.1 10)))))]))+List.length (List.drop 2 (List.take (Int.toNat ((x1.2.1.length:Int))) x1.2.1))≤maxLen)) <|
   Option.bind (qq x1.1 ((((List.drop 0 (List.take (Int.toNat 2) x1.2.1))++([UInt8.ofNat (Int.toNat n2)]))++([UInt8.ofNat (Int.toNat (w32 (w64 (48+(Int.tmod x1.2.2.1 10)))))]))++(List.drop 2 (List.take (Int.toNat ((x1.2.1.length:Int))) x1.2.1)))) fun r3=>
   bif r3.1 then
    some (Sum.inl ((((List.drop 0 (List.take (Int.toNat 2) x1.2.1))++([UInt8.ofNat (Int.toNat n2)]))++([UInt8.ofNat (Int.toNat (w32 (w64 (48+(Int.tmod x1.2.2.1 10)))))]))++(List.drop 2 (List.take (Int.toNat ((x1.2.1.length:Int))) x1.2.1)),0,()))
   else
    again (x1.1,x1.2.1,w64 (x1.2.2.1+1),())
  else
   Option.bind (qq x1.1 (x1.2.1++([UInt8.ofNat (Int.toNat (w32 (w64 (48+(Int.tmod x1.2.2.1 10)))))]))) fun r4=>
   bif r4.1 then
    some (Sum.inl (x1.2.1++([UInt8.ofNat (Int.toNat (w32 (w64 (48+(Int.tmod x1.2.2.1 10)))))]),0,()))
   else
    again (x1.1,x1.2.1,w64 (x1.2.2.1+1),())
 else
  some (Sum.inr ())
def Ba (a0:Int) (a1:List UInt8):Option ((List UInt8)×Int×Unit):=
 Option.bind (Ad a0) fun r1=>
 bif !r1.1 then
  some ([],4,())
 else
  Option.bind (
   bif a0==4 then
    some (decide (((List.length a1:Int))<2),())
   else
    some (false,())) fun v2=>
  bif v2.1 then
   some ([],3,())
  else
   aK (β:=((List UInt8)×Int×Unit)) (γ:=Unit) (
    iter (X:=pO) (β:=uV) (Int.natAbs a0+(List.length a1+(Int.natAbs (0:Int)+2))) (a0,a1,0,()) (uU)) fun _=>
   some ([],3,())
def jM (a0:List UInt8) (a1:Int):Option ((List UInt8)×Int×Unit):=
 Option.bind (xe ((List.length a0:Int)) 1 15) fun r1=>
 bif !r1.1 then
  some ([],3,())
 else
  Option.bind (iA a0 [48,49,50,51,52,53,54,55,56,57]) fun r2=>
  bif !(r2.1==[]) then
   some ([],3,())
  else
   Option.bind (strconv_Itoa a1) fun r3=>
   bif decide (a1<0) then
    some ([],1,())
   else
    bif decide ((w64 (((List.length a0:Int))+((r3.1.length:Int))))>17) then
     some ([],1,())
    else
     let n4:Int:=w64 ((w64 (17 - ((List.length a0:Int)))) - ((r3.1.length:Int)))
     Option.bind (strings_Repeat [48] n4) fun r5=>
     chk (decide (List.length a0+r5.1.length≤maxLen)) <|
     chk (decide (List.length (a0++r5.1)+r3.1.length≤maxLen)) <|
     Option.bind (Ba 3 ((a0++r5.1)++r3.1)) fun r6=>
     some (r6.1,r6.2.1,())
abbrev mN:Type:=(List ai)×(List ai)×Int×Int×(List ai)×Int×Int×(List UInt8)×(List UInt8)×Int×Int×Unit
abbrev qL:Type:=(((Int×Unit) ⊕ Unit) ⊕ ((List ai)×(List ai)×Int×Int×(List UInt8)×(List UInt8)×Int×Int×Unit))
def qK (x1:mN) (again:mN→Option qL):Option qL:=
 bif decide (x1.2.2.2.2.2.2.1<x1.2.2.2.2.2.1) then
  Option.bind (idx x1.2.2.2.2.1 x1.2.2.2.2.2.2.1) fun y2=>
  Option.bind (
   bif y2.1==x1.2.2.2.2.2.2.2.1 then
    some (y2.2.1==x1.2.2.2.2.2.2.2.2.1,())
   else
    some (false,())) fun v3=>
  bif v3.1 then
   DS <|
    some (Sum.inl (7,()))
  else
   again (x1.1,x1.2.1,x1.2.2.1,x1.2.2.2.1,x1.2.2.2.2.1,x1.2.2.2.2.2.1,w64 (x1.2.2.2.2.2.2.1+1),x1.2.2.2.2.2.2.2.1,x1.2.2.2.2.2.2.2.2.1,x1.2.2.2.2.2.2.2.2.2.1,x1.2.2.2.2.2.2.2.2.2.2.1,())
 else
  some (Sum.inr (x1.1,x1.2.1,x1.2.2.1,x1.2.2.2.1,x1.2.2.2.2.2.2.2.1,x1.2.2.2.2.2.2.2.2.1,x1.2.2.2.2.2.2.2.2.2.1,x1.2.2.2.2.2.2.2.2.2.2.1,()))
abbrev qM:Type:=(List ai)×(List ai)×Int×Int×Unit
abbrev xJ:Type:=((Int×Unit) ⊕ Unit)
def qJ (x1:qM) (again:qM→Option xJ):Option xJ:=
 bif decide (x1.2.2.2.1<x1.2.2.1) then
  Option.bind (idx x1.2.1 x1.2.2.2.1) fun y2=>
  Option.bind (kL y2.1) fun r3=>
  bif !r3.1 then
   some (Sum.inl (5,()))
  else
   Option.bind (kL y2.2.1) fun r4=>
   bif !r4.1 then
    some (Sum.inl (5,()))
   else
    chk (decide (0≤(0:Int))&&decide ((0:Int)≤x1.2.2.2.1)&&decide (x1.2.2.2.1≤(x1.1.length:Int))) <|
    aK (β:=((Int×Unit) ⊕ Unit)) (γ:=((List ai)×(List ai)×Int×Int×(List UInt8)×(List UInt8)×Int×Int×Unit)) (
     iter (X:=mN) (β:=qL) (x1.1.length+(x1.2.1.length+(x1.2.2.1.natAbs+(x1.2.2.2.1.natAbs+(List.length (List.drop 0 (List.take (Int.toNat x1.2.2.2.1) x1.1))+(Int.natAbs ((List.length (List.drop 0 (List.take (Int.toNat x1.2.2.2.1) x1.1)):Int))+(Int.natAbs (0:Int)+(y2.1.length+(y2.2.1.length+(y2.2.2.1.natAbs+(y2.2.2.2.natAbs+2))))))))))) (x1.1,x1.2.1,x1.2.2.1,x1.2.2.2.1,List.drop 0 (List.take (Int.toNat x1.2.2.2.1) x1.1),(List.length (List.drop 0 (List.take (Int.toNat x1.2.2.2.1) x1.1)):Int),0,y2.1,y2.2.1,y2.2.2.1,y2.2.2.2,()) (qK)) fun v5=>
    Option.bind (iF (v5.2.2.2.2.2.2.1,v5.2.2.2.2.2.2.2.1) true) fun r6=>
    bif !r6.1 then
     some (Sum.inl (1,()))
    else
     again (v5.1,v5.2.1,v5.2.2.1,w64 (v5.2.2.2.1+1),())
 else
  some (Sum.inr ())
def ry (a0:List ai):Option (Int×Unit):=
 aK (β:=(Int×Unit)) (γ:=Unit) (
  iter (X:=qM) (β:=xJ) (List.length a0+(List.length a0+(Int.natAbs ((List.length a0:Int))+(Int.natAbs (0:Int)+2)))) (a0,a0,(List.length a0:Int),0,()) (qJ)) fun _=>
 some (0,())
abbrev nq:Type:=(List UInt8)×(List UInt8)×(List ai)×Int×Int×Unit
abbrev rA:Type:=((Int×Unit) ⊕ Unit)
def rz (x1:nq) (again:nq→Option rA):Option rA:=
 bif decide (x1.2.2.2.2.1<x1.2.2.2.1) then
  Option.bind (idx x1.2.2.1 x1.2.2.2.2.1) fun y2=>
  Option.bind (
   bif y2.1==x1.1 then
    some (y2.2.1==x1.2.1,())
   else
    some (false,())) fun v3=>
  bif v3.1 then
   some (Sum.inl (x1.2.2.2.2.1,()))
  else
   again (x1.1,x1.2.1,x1.2.2.1,x1.2.2.2.1,w64 (x1.2.2.2.2.1+1),())
 else
  some (Sum.inr ())
def qo (a0:List ai) (a1:List UInt8) (a2:List UInt8):Option (Int×Unit):=
 aK (β:=(Int×Unit)) (γ:=Unit) (
  iter (X:=nq) (β:=rA) (List.length a1+(List.length a2+(List.length a0+(Int.natAbs ((List.length a0:Int))+(Int.natAbs (0:Int)+2))))) (a1,a2,a0,(List.length a0:Int),0,()) (rz)) fun _=>
 some ((-1),())
abbrev vS:Type:=Int×Int×Int×Unit
abbrev A3:Type:=((Int×Unit) ⊕ (Int×Unit))
def A2 (x1:vS) (again:vS→Option A3):Option A3:=
 bif decide (x1.2.2.1<x1.2.1) then
  again (w64 (x1.1*10),x1.2.1,w64 (x1.2.2.1+1),())
 else
  some (Sum.inr (x1.1,()))
def vR (a0:ak):Option (Int×Unit):=
 aK (β:=(Int×Unit)) (γ:=(Int×Unit)) (
  iter (X:=vS) (β:=A3) (a0.1.natAbs+(Int.natAbs (w64 (3 - a0.2))+(Int.natAbs (0:Int)+2))) (a0.1,w64 (3 - a0.2),0,()) (A2)) fun v2=>
 some (v2.1,())
def AY (a0:List UInt8) (a1:Int) (a2:Int):Option (Int×Unit):=
 bif a2==0 then
  some (0,())
 else
  Option.bind (jM a0 a1) fun r1=>
  bif r1.2.1 != 0 then
   some (r1.2.1,())
  else
   Option.bind (jM a0 (w64 ((w64 (a1+a2)) - 1))) fun r2=>
   some (r2.2.1,())
abbrev ru:Type:=(List ai)×(List ai)×(List UInt8)×Int×(List ai)×Int×Int×Unit
abbrev vI:Type:=(((List aa)×Int×Unit) ⊕ ((List ai)×(List ai)×(List UInt8)×Int×Unit))
def vH (x1:ru) (again:ru→Option vI):Option vI:=
 bif decide (x1.2.2.2.2.2.2.1<x1.2.2.2.2.2.1) then
  Option.bind (idx x1.2.2.2.2.1 x1.2.2.2.2.2.2.1) fun y2=>
  Option.bind (qo x1.2.1 y2.1 y2.2.1) fun r3=>
  bif decide (r3.1<0) then
   some (Sum.inl ([],9,()))
  else
   again (x1.1,x1.2.1,x1.2.2.1,x1.2.2.2.1,x1.2.2.2.2.1,x1.2.2.2.2.2.1,w64 (x1.2.2.2.2.2.2.1+1),())
 else
  some (Sum.inr (x1.1,x1.2.1,x1.2.2.1,x1.2.2.2.1,()))
abbrev vK:Type:=(List ai)×(List ai)×(List UInt8)×Int×Int×(List ai)×Int×Int×Unit
abbrev AT:Type:=(((List aa)×Int×Unit) ⊕ ((List ai)×(List ai)×(List UInt8)×Int×Int×Unit))
def AS (x1:vK) (again:vK→Option AT):Option AT:=
 bif decide (x1.2.2.2.2.2.2.2.1<x1.2.2.2.2.2.2.1) then
  Option.bind (idx x1.2.2.2.2.2.1 x1.2.2.2.2.2.2.2.1) fun y2=>
  Option.bind (qo x1.2.1 y2.1 y2.2.1) fun r3=>
  Option.bind (idx x1.2.1 r3.1) fun y4=>
  Option.bind (vR y4.2.2) fun r5=>
  Option.bind (vR y2.2.2) fun r6=>
  chk (r5.1 != (0:Int)) <|
  let n7:Int:=w64 (Int.tdiv (w64 ((w64 (r6.1+r5.1)) - 1)) r5.1)
  again (x1.1,x1.2.1,x1.2.2.1,x1.2.2.2.1,w64 (x1.2.2.2.2.1+n7),x1.2.2.2.2.2.1,x1.2.2.2.2.2.2.1,w64 (x1.2.2.2.2.2.2.2.1+1),())
 else
  some (Sum.inr (x1.1,x1.2.1,x1.2.2.1,x1.2.2.2.1,x1.2.2.2.2.1,()))
abbrev AV:Type:=(List ai)×(List UInt8)×Int×(List aa)×Int×Int×(List ai)×Int×Int×(List UInt8)×(List UInt8)×Int×Int×Unit
abbrev AU:Type:=((((List aa)×Int×Unit) ⊕ ((List aa)×Unit)) ⊕ ((List ai)×(List UInt8)×Int×(List aa)×(List ai)×Int×Int×Unit))
def rq (x1:AV) (again:AV→Option AU):Option AU:=
 bif decide (x1.2.2.2.2.1>0) then
  Option.bind (GJ (if x1.2.2.2.2.2.1<x1.2.2.2.2.1 then x1.2.2.2.2.2.1 else x1.2.2.2.2.1,3)) fun r2=>
  Option.bind (jM x1.2.1 (w64 (x1.2.2.1+((x1.2.2.2.1.length:Int))))) fun r3=>
  chk (decide (((x1.2.2.2.1.length)+1)*72≤140737488355328)&&decide ((x1.2.2.2.1.length)+1≤maxLen)) <|
  again (x1.1,x1.2.1,x1.2.2.1,x1.2.2.2.1++[(r3.1,[],(0,0),[(x1.2.2.2.2.2.2.2.2.2.1,x1.2.2.2.2.2.2.2.2.2.2.1,[],r2.1)])],w64 (x1.2.2.2.2.1 - (if x1.2.2.2.2.2.1<x1.2.2.2.2.1 then x1.2.2.2.2.2.1 else x1.2.2.2.2.1)),x1.2.2.2.2.2.1,x1.2.2.2.2.2.2.1,x1.2.2.2.2.2.2.2.1,x1.2.2.2.2.2.2.2.2.1,x1.2.2.2.2.2.2.2.2.2.1,x1.2.2.2.2.2.2.2.2.2.2.1,x1.2.2.2.2.2.2.2.2.2.2.2.1,x1.2.2.2.2.2.2.2.2.2.2.2.2.1,())
 else
  some (Sum.inr (x1.1,x1.2.1,x1.2.2.1,x1.2.2.2.1,x1.2.2.2.2.2.2.1,x1.2.2.2.2.2.2.2.1,x1.2.2.2.2.2.2.2.2.1,()))
abbrev vL:Type:=(List ai)×(List UInt8)×Int×(List aa)×(List ai)×Int×Int×Unit
abbrev vJ:Type:=(((List aa)×Int×Unit) ⊕ ((List aa)×Unit))
def nC (x1:vL) (again:vL→Option vJ):Option vJ:=
 bif decide (x1.2.2.2.2.2.2.1<x1.2.2.2.2.2.1) then
  Option.bind (idx x1.2.2.2.2.1 x1.2.2.2.2.2.2.1) fun y2=>
  Option.bind (vR y2.2.2) fun r3=>
  Option.bind (qo x1.1 y2.1 y2.2.1) fun r4=>
  Option.bind (idx x1.1 r4.1) fun y5=>
  Option.bind (vR y5.2.2) fun r6=>
  aK (β:=(((List aa)×Int×Unit) ⊕ ((List aa)×Unit))) (γ:=((List ai)×(List UInt8)×Int×(List aa)×(List ai)×Int×Int×Unit)) (
   iter (X:=AV) (β:=AU) (x1.1.length+(x1.2.1.length+(x1.2.2.1.natAbs+(x1.2.2.2.1.length+(r3.1.natAbs+(r6.1.natAbs+(x1.2.2.2.2.1.length+(x1.2.2.2.2.2.1.natAbs+(x1.2.2.2.2.2.2.1.natAbs+(y2.1.length+(y2.2.1.length+(y2.2.2.1.natAbs+(y2.2.2.2.natAbs+2))))))))))))) (x1.1,x1.2.1,x1.2.2.1,x1.2.2.2.1,r3.1,r6.1,x1.2.2.2.2.1,x1.2.2.2.2.2.1,x1.2.2.2.2.2.2.1,y2.1,y2.2.1,y2.2.2.1,y2.2.2.2,()) (rq)) fun v7=>
  again (v7.1,v7.2.1,v7.2.2.1,v7.2.2.2.1,v7.2.2.2.2.1,v7.2.2.2.2.2.1,w64 (v7.2.2.2.2.2.2.1+1),())
 else
  some (Sum.inr (x1.2.2.2.1,()))
def J2 (a0:List ai) (a1:List ai) (a2:List UInt8) (a3:Int):Option ((List aa)×Int×Unit):=
 bif decide (((List.length a0:Int))>100) then
  some ([],2,())
 else
  bif decide (((List.length a1:Int))>100) then
   some ([],2,())
  else
   Option.bind (ry a0) fun r1=>
   bif r1.1 != 0 then
    some ([],r1.1,())
   else
    Option.bind (ry a1) fun r2=>
    bif r2.1 != 0 then
     some ([],r2.1,())
    else
     aK (β:=((List aa)×Int×Unit)) (γ:=((List ai)×(List ai)×(List UInt8)×Int×Unit)) (
      iter (X:=ru) (β:=vI) (List.length a0+(List.length a1+(List.length a2+(Int.natAbs a3+(List.length a0+(Int.natAbs ((List.length a0:Int))+(Int.natAbs (0:Int)+2))))))) (a0,a1,a2,a3,a0,(List.length a0:Int),0,()) (vH)) fun v6=>
     aK (β:=((List aa)×Int×Unit)) (γ:=((List ai)×(List ai)×(List UInt8)×Int×Int×Unit)) (
      iter (X:=vK) (β:=AT) (v6.1.length+(v6.2.1.length+(v6.2.2.1.length+(v6.2.2.2.1.natAbs+(Int.natAbs (0:Int)+(v6.1.length+(Int.natAbs ((v6.1.length:Int))+(Int.natAbs (0:Int)+2)))))))) (v6.1,v6.2.1,v6.2.2.1,v6.2.2.2.1,0,v6.1,(v6.1.length:Int),0,()) (AS)) fun v14=>
     Option.bind (AY v14.2.2.1 v14.2.2.2.1 v14.2.2.2.2.1) fun r15=>
     bif r15.1 != 0 then
      some ([],r15.1,())
     else
      bif decide (v14.2.2.2.2.1>500) then
       some ([],2,())
      else
       aK (β:=((List aa)×Int×Unit)) (γ:=((List aa)×Unit)) (
        iter (X:=vL) (β:=vJ) (v14.2.1.length+(v14.2.2.1.length+(v14.2.2.2.1.natAbs+(List.length ([]:List aa)+(v14.1.length+(Int.natAbs ((v14.1.length:Int))+(Int.natAbs (0:Int)+2))))))) (v14.2.1,v14.2.2.1,v14.2.2.2.1,[],v14.1,(v14.1.length:Int),0,()) (nC)) fun v26=>
       some (v26.1,0,())
abbrev fW:Type:=(List aW)×(List aW)×Int×Int×Unit
abbrev iO:Type:=((Bool×Unit) ⊕ Unit)
def iN (x1:fW) (again:fW→Option iO):Option iO:=
 bif decide (x1.2.2.2.1<x1.2.2.1) then
  Option.bind (idx x1.1 x1.2.2.2.1) fun y2=>
  Option.bind (idx x1.2.1 x1.2.2.2.1) fun y3=>
  bif !((y2.1==y3.1)&&((y2.2.1==y3.2.1)&&((y2.2.2.1==y3.2.2.1)&&(((y2.2.2.2.1==y3.2.2.2.1)&&((y2.2.2.2.2==y3.2.2.2.2)&&true))&&true)))) then
   some (Sum.inl (false,()))
  else
   again (x1.1,x1.2.1,x1.2.2.1,w64 (x1.2.2.2.1+1),())
 else
  some (Sum.inr ())
def kr (a0:List aW) (a1:List aW):Option (Bool×Unit):=
 bif ((List.length a0:Int)) != ((List.length a1:Int)) then
  some (false,())
 else
  aK (β:=(Bool×Unit)) (γ:=Unit) (
   iter (X:=fW) (β:=iO) (List.length a0+(List.length a1+(Int.natAbs ((List.length a0:Int))+(Int.natAbs (0:Int)+2)))) (a0,a1,(List.length a0:Int),0,()) (iN)) fun _=>
  some (true,())
abbrev lY:Type:=(List aa)×(List aa)×Int×Int×Unit
abbrev pL:Type:=((Bool×Unit) ⊕ Unit)
def pK (x1:lY) (again:lY→Option pL):Option pL:=
 bif decide (x1.2.2.2.1<x1.2.2.1) then
  Option.bind (idx x1.2.1 x1.2.2.2.1) fun y2=>
  Option.bind (idx x1.1 x1.2.2.2.1) fun y3=>
  bif !(y2.1==y3.1) then
   some (Sum.inl (false,()))
  else
   bif !(y2.2.1==y3.2.1) then
    some (Sum.inl (false,()))
   else
    bif !((y2.2.2.1.1==y3.2.2.1.1)&&((y2.2.2.1.2==y3.2.2.1.2)&&true)) then
     some (Sum.inl (false,()))
    else
     Option.bind (kr y2.2.2.2 y3.2.2.2) fun r4=>
     bif !r4.1 then
      some (Sum.inl (false,()))
     else
      again (x1.1,x1.2.1,x1.2.2.1,w64 (x1.2.2.2.1+1),())
 else
  some (Sum.inr ())
def pJ (a0:List aa) (a1:List aa):Option (Bool×Unit):=
 bif ((List.length a0:Int)) != ((List.length a1:Int)) then
  some (false,())
 else
  aK (β:=(Bool×Unit)) (γ:=Unit) (
   iter (X:=lY) (β:=pL) (List.length a1+(List.length a0+(Int.natAbs ((List.length a0:Int))+(Int.natAbs (0:Int)+2)))) (a1,a0,(List.length a0:Int),0,()) (pK)) fun _=>
  some (true,())
def uz (a0:aa):Option (Bool×Unit):=
 some (!(a0.2.1==[]),())
def B6 (a0:aa) (a1:List UInt8):Option (Bool×Unit):=
 some (a0.1==a1,())
abbrev eX:Type:=(List aa)×Unit×Int×Int×Unit
abbrev eW:Type:=((Int×Unit) ⊕ Unit)
def eV (x1:eX) (again:eX→Option eW):Option eW:=
 bif decide (x1.2.2.2.1<x1.2.2.1) then
  Option.bind (idx x1.1 x1.2.2.2.1) fun y2=>
  Option.bind (uz y2) fun r3=>
  bif r3.1 then
   some (Sum.inl (x1.2.2.2.1,()))
  else
   again (x1.1,x1.2.1,x1.2.2.1,w64 (x1.2.2.2.1+1),())
 else
  some (Sum.inr ())
def lZ (a0:List aa) (a1:Unit):Option (Int×Unit):=
 aK (β:=(Int×Unit)) (γ:=Unit) (
  iter (X:=eX) (β:=eW) (List.length a0+(Int.natAbs ((List.length a0:Int))+(Int.natAbs (0:Int)+2))) (a0,a1,(List.length a0:Int),0,()) (eV)) fun _=>
 some ((-1),())
abbrev dS:Type:=(List aa)×(List UInt8)×Int×Int×Unit
abbrev dR:Type:=((Int×Unit) ⊕ Unit)
def dQ (x1:dS) (again:dS→Option dR):Option dR:=
 bif decide (x1.2.2.2.1<x1.2.2.1) then
  Option.bind (idx x1.1 x1.2.2.2.1) fun y2=>
  Option.bind (B6 y2 x1.2.1) fun r3=>
  bif r3.1 then
   some (Sum.inl (x1.2.2.2.1,()))
  else
   again (x1.1,x1.2.1,x1.2.2.1,w64 (x1.2.2.2.1+1),())
 else
  some (Sum.inr ())
def kP (a0:List aa) (a1:List UInt8):Option (Int×Unit):=
 aK (β:=(Int×Unit)) (γ:=Unit) (
  iter (X:=dS) (β:=dR) (List.length a0+(Int.natAbs ((List.length a0:Int))+(Int.natAbs (0:Int)+2))) (a0,a1,(List.length a0:Int),0,()) (dQ)) fun _=>
 some ((-1),())
def gT (a0:List aa) (a1:Unit):Option (Bool×Unit):=
 Option.bind (lZ a0 a1) fun r1=>
 some (decide (r1.1≥0),())
def gu (a0:List aa) (a1:List UInt8):Option (Bool×Unit):=
 Option.bind (kP a0 a1) fun r1=>
 some (decide (r1.1≥0),())
def mK (a0:List aa) (a1:List ai) (a2:ak):Option (Int×Unit):=
 Option.bind (oV ([97],[97],1,a0)) fun r1=>
 bif r1.1 != 0 then
  some (r1.1,())
 else
  Option.bind (gT a0 ()) fun r2=>
  bif r2.1 then
   some (3,())
  else
   Option.bind (oW a1) fun r3=>
   bif r3.1 != 0 then
    some (r3.1,())
   else
    Option.bind (iQ a2) fun r4=>
    some (r4.1,())
def jY (a0:ah) (a1:ah):Option (Int×Unit):=
 Option.bind (gO a1.2 a0.2) fun r1=>
 some (r1.1,())
abbrev cT:Type:=Int×Int×Unit×Int×Int×(List ah)×Unit
abbrev cR:Type:=((((List ah)×Unit) ⊕ ((List ah)×Unit)) ⊕ (Int×Int×Unit×Int×(List ah)×Unit))
def cO (x1:cT) (again:cT→Option cR):Option cR:=
 bif decide (x1.2.2.2.2.1>x1.1) then
  chk (decide (0≤x1.2.2.2.2.1)&&decide (x1.2.2.2.2.1<(x1.2.2.2.2.2.1.length:Int))) <|
  Option.bind (x1.2.2.2.2.2.1[x1.2.2.2.2.1.toNat]?) fun y2=>
  chk (decide (0≤(w64 (x1.2.2.2.2.1 - 1)))&&decide ((w64 (x1.2.2.2.2.1 - 1))<(x1.2.2.2.2.2.1.length:Int))) <|
  Option.bind (x1.2.2.2.2.2.1[(w64 (x1.2.2.2.2.1 - 1)).toNat]?) fun y3=>
  Option.bind (jY y2 y3) fun r4=>
  bif decide (r4.1<0) then
   chk (decide (0≤(w64 (x1.2.2.2.2.1 - 1)))&&decide ((w64 (x1.2.2.2.2.1 - 1))<(x1.2.2.2.2.2.1.length:Int))) <|
   Option.bind (x1.2.2.2.2.2.1[(w64 (x1.2.2.2.2.1 - 1)).toNat]?) fun y5=>
   chk (decide (0≤x1.2.2.2.2.1)&&decide (x1.2.2.2.2.1<(x1.2.2.2.2.2.1.length:Int))) <|
   Option.bind (x1.2.2.2.2.2.1[x1.2.2.2.2.1.toNat]?) fun y6=>
   chk (decide (0≤x1.2.2.2.2.1)&&decide (x1.2.2.2.2.1<(x1.2.2.2.2.2.1.length:Int))) <|
   Option.bind (x1.2.2.2.2.2.1[x1.2.2.2.2.1.toNat]?) fun _=>
   chk (decide (0≤(w64 (x1.2.2.2.2.1 - 1)))&&decide ((w64 (x1.2.2.2.2.1 - 1))<(List.length (List.set x1.2.2.2.2.2.1 x1.2.2.2.2.1.toNat y5):Int))) <|
   Option.bind ((List.set x1.2.2.2.2.2.1 x1.2.2.2.2.1.toNat y5)[(w64 (x1.2.2.2.2.1 - 1)).toNat]?) fun _=>
   again (x1.1,x1.2.1,x1.2.2.1,x1.2.2.2.1,w64 (x1.2.2.2.2.1 - 1),List.set (List.set x1.2.2.2.2.2.1 x1.2.2.2.2.1.toNat y5) (w64 (x1.2.2.2.2.1 - 1)).toNat y6,())
  else
   some (Sum.inr (x1.1,x1.2.1,x1.2.2.1,x1.2.2.2.1,x1.2.2.2.2.2.1,()))
 else
  some (Sum.inr (x1.1,x1.2.1,x1.2.2.1,x1.2.2.2.1,x1.2.2.2.2.2.1,()))
abbrev cS:Type:=Int×Int×Unit×Int×(List ah)×Unit
abbrev cQ:Type:=(((List ah)×Unit) ⊕ ((List ah)×Unit))
def bZ (x1:cS) (again:cS→Option cQ):Option cQ:=
 bif decide (x1.2.2.2.1<x1.2.1) then
  aK (β:=(((List ah)×Unit) ⊕ ((List ah)×Unit))) (γ:=(Int×Int×Unit×Int×(List ah)×Unit)) (
   iter (X:=cT) (β:=cR) (x1.1.natAbs+(x1.2.1.natAbs+(x1.2.2.2.1.natAbs+(x1.2.2.2.1.natAbs+(x1.2.2.2.2.1.length+2))))) (x1.1,x1.2.1,x1.2.2.1,x1.2.2.2.1,x1.2.2.2.1,x1.2.2.2.2.1,()) (cO)) fun v2=>
  again (v2.1,v2.2.1,v2.2.2.1,w64 (v2.2.2.2.1+1),v2.2.2.2.2.1,())
 else
  some (Sum.inr (x1.2.2.2.2.1,()))
def cr (a0:List ah) (a1:Int) (a2:Int) (a3:Unit):Option ((List ah)×Unit):=
 aK (β:=((List ah)×Unit)) (γ:=((List ah)×Unit)) (
  iter (X:=cS) (β:=cQ) (Int.natAbs a1+(Int.natAbs a2+(Int.natAbs (w64 (a1+1))+(List.length a0+2)))) (a1,a2,a3,w64 (a1+1),a0,()) (bZ)) fun v11=>
 some (v11.1,())
abbrev dI:Type:=Int×Int×Int×Int×(List ah)×Unit
abbrev dH:Type:=(((List ah)×Unit) ⊕ ((List ah)×Unit))
def dG (x1:dI) (again:dI→Option dH):Option dH:=
 bif decide (x1.2.2.2.1<x1.2.2.1) then
  chk (decide (0≤(w64 (x1.2.1+x1.2.2.2.1)))&&decide ((w64 (x1.2.1+x1.2.2.2.1))<(x1.2.2.2.2.1.length:Int))) <|
  Option.bind (x1.2.2.2.2.1[(w64 (x1.2.1+x1.2.2.2.1)).toNat]?) fun y2=>
  chk (decide (0≤(w64 (x1.1+x1.2.2.2.1)))&&decide ((w64 (x1.1+x1.2.2.2.1))<(x1.2.2.2.2.1.length:Int))) <|
  Option.bind (x1.2.2.2.2.1[(w64 (x1.1+x1.2.2.2.1)).toNat]?) fun y3=>
  chk (decide (0≤(w64 (x1.1+x1.2.2.2.1)))&&decide ((w64 (x1.1+x1.2.2.2.1))<(x1.2.2.2.2.1.length:Int))) <|
  Option.bind (x1.2.2.2.2.1[(w64 (x1.1+x1.2.2.2.1)).toNat]?) fun _=>
  chk (decide (0≤(w64 (x1.2.1+x1.2.2.2.1)))&&decide ((w64 (x1.2.1+x1.2.2.2.1))<(List.length (List.set x1.2.2.2.2.1 (w64 (x1.1+x1.2.2.2.1)).toNat y2):Int))) <|
  Option.bind ((List.set x1.2.2.2.2.1 (w64 (x1.1+x1.2.2.2.1)).toNat y2)[(w64 (x1.2.1+x1.2.2.2.1)).toNat]?) fun _=>
  again (x1.1,x1.2.1,x1.2.2.1,w64 (x1.2.2.2.1+1),List.set (List.set x1.2.2.2.2.1 (w64 (x1.1+x1.2.2.2.1)).toNat y2) (w64 (x1.2.1+x1.2.2.2.1)).toNat y3,())
 else
  some (Sum.inr (x1.2.2.2.2.1,()))
def cc (a0:List ah) (a1:Int) (a2:Int) (a3:Int) (_a4:Unit):Option ((List ah)×Unit):=
 aK (β:=((List ah)×Unit)) (γ:=((List ah)×Unit)) (
  iter (X:=dI) (β:=dH) (Int.natAbs a1+(Int.natAbs a2+(Int.natAbs a3+(Int.natAbs (0:Int)+(List.length a0+2))))) (a1,a2,a3,0,a0,()) (dG)) fun v6=>
 some (v6.1,())
abbrev fe:Type:=Int×Unit×Int×Int×(List ah)×Unit
abbrev eZ:Type:=(((List ah)×Unit) ⊕ (Int×Unit×Int×(List ah)×Unit))
def eY (x1:fe) (again:fe→Option eZ):Option eZ:=
 bif x1.2.2.1 != x1.2.2.2.1 then
  bif decide (x1.2.2.1>x1.2.2.2.1) then
   Option.bind (cc x1.2.2.2.2.1 (w64 (x1.1 - x1.2.2.1)) x1.1 x1.2.2.2.1 x1.2.1) fun r2=>
   again (x1.1,x1.2.1,w64 (x1.2.2.1 - x1.2.2.2.1),x1.2.2.2.1,r2.1,())
  else
   Option.bind (cc x1.2.2.2.2.1 (w64 (x1.1 - x1.2.2.1)) (w64 ((w64 (x1.1+x1.2.2.2.1)) - x1.2.2.1)) x1.2.2.1 x1.2.1) fun r3=>
   again (x1.1,x1.2.1,x1.2.2.1,w64 (x1.2.2.2.1 - x1.2.2.1),r3.1,())
 else
  some (Sum.inr (x1.1,x1.2.1,x1.2.2.1,x1.2.2.2.2.1,()))
def fT (a0:List ah) (a1:Int) (a2:Int) (a3:Int) (a4:Unit):Option ((List ah)×Unit):=
 aK (β:=((List ah)×Unit)) (γ:=(Int×Unit×Int×(List ah)×Unit)) (
  iter (X:=fe) (β:=eZ) (Int.natAbs a2+(Int.natAbs (w64 (a2 - a1))+(Int.natAbs (w64 (a3 - a2))+(List.length a0+2)))) (a2,a4,w64 (a2 - a1),w64 (a3 - a2),a0,()) (eY)) fun v4=>
 Option.bind (cc v4.2.2.2.1 (w64 (v4.1 - v4.2.2.1)) v4.1 v4.2.2.1 v4.2.1) fun r5=>
 some (r5.1,())
abbrev dZ:Type:=Int×Unit×Int×Int×(List ah)×Unit
abbrev dX:Type:=(((List ah)×Unit) ⊕ (Int×Int×(List ah)×Unit))
def cE (x1:dZ) (again:dZ→Option dX):Option dX:=
 bif decide (x1.2.2.1<x1.2.2.2.1) then
  let n2:Int:=w64 (Int.fdiv (bR (w64 (x1.2.2.1+x1.2.2.2.1))) (2 ^ 1))
  chk (decide (0≤n2)&&decide (n2<(x1.2.2.2.2.1.length:Int))) <|
  Option.bind (x1.2.2.2.2.1[n2.toNat]?) fun y3=>
  chk (decide (0≤x1.1)&&decide (x1.1<(x1.2.2.2.2.1.length:Int))) <|
  Option.bind (x1.2.2.2.2.1[x1.1.toNat]?) fun y4=>
  Option.bind (jY y3 y4) fun r5=>
  bif decide (r5.1<0) then
   again (x1.1,x1.2.1,w64 (n2+1),x1.2.2.2.1,x1.2.2.2.2.1,())
  else
   again (x1.1,x1.2.1,x1.2.2.1,n2,x1.2.2.2.2.1,())
 else
  some (Sum.inr (x1.1,x1.2.2.1,x1.2.2.2.2.1,()))
abbrev ef:Type:=Int×Int×(List ah)×Unit
abbrev dY:Type:=(((List ah)×Unit) ⊕ ((List ah)×Unit))
def dW (x1:ef) (again:ef→Option dY):Option dY:=
 bif decide (x1.2.1<(w64 (x1.1 - 1))) then
  chk (decide (0≤(w64 (x1.2.1+1)))&&decide ((w64 (x1.2.1+1))<(x1.2.2.1.length:Int))) <|
  Option.bind (x1.2.2.1[(w64 (x1.2.1+1)).toNat]?) fun y2=>
  chk (decide (0≤x1.2.1)&&decide (x1.2.1<(x1.2.2.1.length:Int))) <|
  Option.bind (x1.2.2.1[x1.2.1.toNat]?) fun y3=>
  chk (decide (0≤x1.2.1)&&decide (x1.2.1<(x1.2.2.1.length:Int))) <|
  Option.bind (x1.2.2.1[x1.2.1.toNat]?) fun _=>
  chk (decide (0≤(w64 (x1.2.1+1)))&&decide ((w64 (x1.2.1+1))<(List.length (List.set x1.2.2.1 x1.2.1.toNat y2):Int))) <|
  Option.bind ((List.set x1.2.2.1 x1.2.1.toNat y2)[(w64 (x1.2.1+1)).toNat]?) fun _=>
  again (x1.1,w64 (x1.2.1+1),List.set (List.set x1.2.2.1 x1.2.1.toNat y2) (w64 (x1.2.1+1)).toNat y3,())
 else
  some (Sum.inr (x1.2.2.1,()))
abbrev dN:Type:=Int×Unit×Int×Int×(List ah)×Unit
abbrev dK:Type:=(((List ah)×Unit) ⊕ (Int×Int×(List ah)×Unit))
def cz (x1:dN) (again:dN→Option dK):Option dK:=
 bif decide (x1.2.2.1<x1.2.2.2.1) then
  let n2:Int:=w64 (Int.fdiv (bR (w64 (x1.2.2.1+x1.2.2.2.1))) (2 ^ 1))
  chk (decide (0≤x1.1)&&decide (x1.1<(x1.2.2.2.2.1.length:Int))) <|
  Option.bind (x1.2.2.2.2.1[x1.1.toNat]?) fun y3=>
  chk (decide (0≤n2)&&decide (n2<(x1.2.2.2.2.1.length:Int))) <|
  Option.bind (x1.2.2.2.2.1[n2.toNat]?) fun y4=>
  Option.bind (jY y3 y4) fun r5=>
  bif !(decide (r5.1<0)) then
   again (x1.1,x1.2.1,w64 (n2+1),x1.2.2.2.1,x1.2.2.2.2.1,())
  else
   again (x1.1,x1.2.1,x1.2.2.1,n2,x1.2.2.2.2.1,())
 else
  some (Sum.inr (x1.1,x1.2.2.1,x1.2.2.2.2.1,()))
abbrev dO:Type:=Int×Int×(List ah)×Unit
abbrev dL:Type:=(((List ah)×Unit) ⊕ ((List ah)×Unit))
def dJ (x1:dO) (again:dO→Option dL):Option dL:=
 bif decide (x1.2.1>x1.1) then
  chk (decide (0≤(w64 (x1.2.1 - 1)))&&decide ((w64 (x1.2.1 - 1))<(x1.2.2.1.length:Int))) <|
  Option.bind (x1.2.2.1[(w64 (x1.2.1 - 1)).toNat]?) fun y2=>
  chk (decide (0≤x1.2.1)&&decide (x1.2.1<(x1.2.2.1.length:Int))) <|
  Option.bind (x1.2.2.1[x1.2.1.toNat]?) fun y3=>
  chk (decide (0≤x1.2.1)&&decide (x1.2.1<(x1.2.2.1.length:Int))) <|
  Option.bind (x1.2.2.1[x1.2.1.toNat]?) fun _=>
  chk (decide (0≤(w64 (x1.2.1 - 1)))&&decide ((w64 (x1.2.1 - 1))<(List.length (List.set x1.2.2.1 x1.2.1.toNat y2):Int))) <|
  Option.bind ((List.set x1.2.2.1 x1.2.1.toNat y2)[(w64 (x1.2.1 - 1)).toNat]?) fun _=>
  again (x1.1,w64 (x1.2.1 - 1),List.set (List.set x1.2.2.1 x1.2.1.toNat y2) (w64 (x1.2.1 - 1)).toNat y3,())
 else
  some (Sum.inr (x1.2.2.1,()))
abbrev dP:Type:=Int×Int×Int×Unit×Int×Int×Int×Int×Int×(List ah)×Unit
abbrev dM:Type:=(((List ah)×Unit) ⊕ (Int×Int×Int×Unit×Int×Int×Int×(List ah)×Unit))
def cA (x1:dP) (again:dP→Option dM):Option dM:=
 bif decide (x1.2.2.2.2.2.2.1<x1.2.2.2.2.2.2.2.1) then
  let n2:Int:=w64 (Int.fdiv (bR (w64 (x1.2.2.2.2.2.2.1+x1.2.2.2.2.2.2.2.1))) (2 ^ 1))
  chk (decide (0≤(w64 (x1.2.2.2.2.2.2.2.2.1 - n2)))&&decide ((w64 (x1.2.2.2.2.2.2.2.2.1 - n2))<(x1.2.2.2.2.2.2.2.2.2.1.length:Int))) <|
  Option.bind (x1.2.2.2.2.2.2.2.2.2.1[(w64 (x1.2.2.2.2.2.2.2.2.1 - n2)).toNat]?) fun y3=>
  chk (decide (0≤n2)&&decide (n2<(x1.2.2.2.2.2.2.2.2.2.1.length:Int))) <|
  Option.bind (x1.2.2.2.2.2.2.2.2.2.1[n2.toNat]?) fun y4=>
  Option.bind (jY y3 y4) fun r5=>
  bif !(decide (r5.1<0)) then
   again (x1.1,x1.2.1,x1.2.2.1,x1.2.2.2.1,x1.2.2.2.2.1,x1.2.2.2.2.2.1,w64 (n2+1),x1.2.2.2.2.2.2.2.1,x1.2.2.2.2.2.2.2.2.1,x1.2.2.2.2.2.2.2.2.2.1,())
  else
   again (x1.1,x1.2.1,x1.2.2.1,x1.2.2.2.1,x1.2.2.2.2.1,x1.2.2.2.2.2.1,x1.2.2.2.2.2.2.1,n2,x1.2.2.2.2.2.2.2.2.1,x1.2.2.2.2.2.2.2.2.2.1,())
 else
  some (Sum.inr (x1.1,x1.2.1,x1.2.2.1,x1.2.2.2.1,x1.2.2.2.2.1,x1.2.2.2.2.2.1,x1.2.2.2.2.2.2.1,x1.2.2.2.2.2.2.2.2.2.1,()))
def bM (self:((List ah)×Int×Int×Int×Unit×Unit)→Option ((List ah)×Unit)) (a0:List ah) (a1:Int) (a2:Int) (a3:Int) (a4:Unit):Option ((List ah)×Unit):=
 bif (w64 (a2 - a1))==1 then
  aK (β:=((List ah)×Unit)) (γ:=(Int×Int×(List ah)×Unit)) (
   iter (X:=dZ) (β:=dX) (Int.natAbs a1+(Int.natAbs a2+(Int.natAbs a3+(List.length a0+2)))) (a1,a4,a2,a3,a0,()) (cE)) fun v6=>
  aK (β:=((List ah)×Unit)) (γ:=((List ah)×Unit)) (
   iter (X:=ef) (β:=dY) (v6.2.1.natAbs+(v6.1.natAbs+(v6.2.2.1.length+2))) (v6.2.1,v6.1,v6.2.2.1,()) (dW)) fun v12=>
  some (v12.1,())
 else
  bif (w64 (a3 - a2))==1 then
   aK (β:=((List ah)×Unit)) (γ:=(Int×Int×(List ah)×Unit)) (
    iter (X:=dN) (β:=dK) (Int.natAbs a2+(Int.natAbs a1+(Int.natAbs a2+(List.length a0+2)))) (a2,a4,a1,a2,a0,()) (cz)) fun v18=>
   aK (β:=((List ah)×Unit)) (γ:=((List ah)×Unit)) (
    iter (X:=dO) (β:=dL) (v18.2.1.natAbs+(v18.1.natAbs+(v18.2.2.1.length+2))) (v18.2.1,v18.1,v18.2.2.1,()) (dJ)) fun v24=>
   some (v24.1,())
  else
   let n25:Int:=w64 (Int.fdiv (bR (w64 (a1+a3))) (2 ^ 1))
   aK (β:=((List ah)×Unit)) (γ:=(Int×Int×Int×Unit×Int×Int×Int×Int×(List ah)×Unit)) (
    bif decide (a2>n25) then
     some (Sum.inr (a1,a2,a3,a4,n25,w64 (n25+a2),w64 ((w64 (n25+a2)) - a3),n25,a0,()))
    else
     some (Sum.inr (a1,a2,a3,a4,n25,w64 (n25+a2),a1,a2,a0,()))) fun v26=>
   aK (β:=((List ah)×Unit)) (γ:=(Int×Int×Int×Unit×Int×Int×Int×(List ah)×Unit)) (
    iter (X:=dP) (β:=dM) (v26.1.natAbs+(v26.2.1.natAbs+(v26.2.2.1.natAbs+(v26.2.2.2.2.1.natAbs+(v26.2.2.2.2.2.1.natAbs+(v26.2.2.2.2.2.2.1.natAbs+(v26.2.2.2.2.2.2.2.1.natAbs+(Int.natAbs (w64 (v26.2.2.2.2.2.1 - 1))+(v26.2.2.2.2.2.2.2.2.1.length+2))))))))) (v26.1,v26.2.1,v26.2.2.1,v26.2.2.2.1,v26.2.2.2.2.1,v26.2.2.2.2.2.1,v26.2.2.2.2.2.2.1,v26.2.2.2.2.2.2.2.1,w64 (v26.2.2.2.2.2.1 - 1),v26.2.2.2.2.2.2.2.2.1,()) (cA)) fun v32=>
   bif decide (v32.2.2.2.2.2.2.1<v32.2.1) then
    aK (β:=((List ah)×Unit)) (γ:=(Int×Int×Unit×Int×Int×Int×(List ah)×Unit)) (
     bif decide (v32.2.1<(w64 (v32.2.2.2.2.2.1 - v32.2.2.2.2.2.2.1))) then
      Option.bind (fT v32.2.2.2.2.2.2.2.1 v32.2.2.2.2.2.2.1 v32.2.1 (w64 (v32.2.2.2.2.2.1 - v32.2.2.2.2.2.2.1)) v32.2.2.2.1) fun r33=>
      some (Sum.inr (v32.1,v32.2.2.1,v32.2.2.2.1,v32.2.2.2.2.1,v32.2.2.2.2.2.2.1,w64 (v32.2.2.2.2.2.1 - v32.2.2.2.2.2.2.1),r33.1,()))
     else
      some (Sum.inr (v32.1,v32.2.2.1,v32.2.2.2.1,v32.2.2.2.2.1,v32.2.2.2.2.2.2.1,w64 (v32.2.2.2.2.2.1 - v32.2.2.2.2.2.2.1),v32.2.2.2.2.2.2.2.1,()))) fun v34=>
    bif decide (v34.1<v34.2.2.2.2.1) then
     aK (β:=((List ah)×Unit)) (γ:=(Int×Unit×Int×Int×(List ah)×Unit)) (
      bif decide (v34.2.2.2.2.1<v34.2.2.2.1) then
       Option.bind (self (v34.2.2.2.2.2.2.1,v34.1,v34.2.2.2.2.1,v34.2.2.2.1,v34.2.2.1,())) fun r35=>
       some (Sum.inr (v34.2.1,v34.2.2.1,v34.2.2.2.1,v34.2.2.2.2.2.1,r35.1,()))
      else
       some (Sum.inr (v34.2.1,v34.2.2.1,v34.2.2.2.1,v34.2.2.2.2.2.1,v34.2.2.2.2.2.2.1,()))) fun v36=>
     bif decide (v36.2.2.1<v36.2.2.2.1) then
      bif decide (v36.2.2.2.1<v36.1) then
       Option.bind (self (v36.2.2.2.2.1,v36.2.2.1,v36.2.2.2.1,v36.1,v36.2.1,())) fun r37=>
       some (r37.1,())
      else
       some (v36.2.2.2.2.1,())
     else
      some (v36.2.2.2.2.1,())
    else
     aK (β:=((List ah)×Unit)) (γ:=(Int×Unit×Int×Int×(List ah)×Unit)) (
      some (Sum.inr (v34.2.1,v34.2.2.1,v34.2.2.2.1,v34.2.2.2.2.2.1,v34.2.2.2.2.2.2.1,()))) fun v38=>
     bif decide (v38.2.2.1<v38.2.2.2.1) then
      bif decide (v38.2.2.2.1<v38.1) then
       Option.bind (self (v38.2.2.2.2.1,v38.2.2.1,v38.2.2.2.1,v38.1,v38.2.1,())) fun r39=>
       some (r39.1,())
      else
       some (v38.2.2.2.2.1,())
     else
      some (v38.2.2.2.2.1,())
   else
    aK (β:=((List ah)×Unit)) (γ:=(Int×Int×Unit×Int×Int×Int×(List ah)×Unit)) (
     some (Sum.inr (v32.1,v32.2.2.1,v32.2.2.2.1,v32.2.2.2.2.1,v32.2.2.2.2.2.2.1,w64 (v32.2.2.2.2.2.1 - v32.2.2.2.2.2.2.1),v32.2.2.2.2.2.2.2.1,()))) fun v40=>
    bif decide (v40.1<v40.2.2.2.2.1) then
     aK (β:=((List ah)×Unit)) (γ:=(Int×Unit×Int×Int×(List ah)×Unit)) (
      bif decide (v40.2.2.2.2.1<v40.2.2.2.1) then
       Option.bind (self (v40.2.2.2.2.2.2.1,v40.1,v40.2.2.2.2.1,v40.2.2.2.1,v40.2.2.1,())) fun r41=>
       some (Sum.inr (v40.2.1,v40.2.2.1,v40.2.2.2.1,v40.2.2.2.2.2.1,r41.1,()))
      else
       some (Sum.inr (v40.2.1,v40.2.2.1,v40.2.2.2.1,v40.2.2.2.2.2.1,v40.2.2.2.2.2.2.1,()))) fun v42=>
     bif decide (v42.2.2.1<v42.2.2.2.1) then
      bif decide (v42.2.2.2.1<v42.1) then
       Option.bind (self (v42.2.2.2.2.1,v42.2.2.1,v42.2.2.2.1,v42.1,v42.2.1,())) fun r43=>
       some (r43.1,())
      else
       some (v42.2.2.2.2.1,())
     else
      some (v42.2.2.2.2.1,())
    else
     aK (β:=((List ah)×Unit)) (γ:=(Int×Unit×Int×Int×(List ah)×Unit)) (
      some (Sum.inr (v40.2.1,v40.2.2.1,v40.2.2.2.1,v40.2.2.2.2.2.1,v40.2.2.2.2.2.2.1,()))) fun v44=>
     bif decide (v44.2.2.1<v44.2.2.2.1) then
      bif decide (v44.2.2.2.1<v44.1) then
       Option.bind (self (v44.2.2.2.2.1,v44.2.2.1,v44.2.2.2.1,v44.1,v44.2.1,())) fun r45=>
       some (r45.1,())
      else
       some (v44.2.2.2.2.1,())
     else
      some (v44.2.2.2.2.1,())
def gv (a0:List ah) (a1:Int) (a2:Int) (a3:Int) (_a4:Unit):Nat:=List.length a0+(Int.natAbs a1+(Int.natAbs a2+(Int.natAbs a3+2)))
def cZ (a0:List ah) (a1:Int) (a2:Int) (a3:Int) (a4:Unit):Option ((List ah)×Unit):=
 Fp (fun self x=>bM self x.1 x.2.1 x.2.2.1 x.2.2.2.1 x.2.2.2.2.1) (gv a0 a1 a2 a3 a4) (a0,a1,a2,a3,a4,())
abbrev fA:Type:=Int×Unit×Int×Int×Int×(List ah)×Unit
abbrev fm:Type:=(((List ah)×Unit) ⊕ (Int×Unit×Int×Int×(List ah)×Unit))
def ff (x1:fA) (again:fA→Option fm):Option fm:=
 bif decide (x1.2.2.2.2.1≤x1.1) then
  Option.bind (cr x1.2.2.2.2.2.1 x1.2.2.2.1 x1.2.2.2.2.1 x1.2.1) fun r2=>
  again (x1.1,x1.2.1,x1.2.2.1,x1.2.2.2.2.1,w64 (x1.2.2.2.2.1+x1.2.2.1),r2.1,())
 else
  some (Sum.inr (x1.1,x1.2.1,x1.2.2.1,x1.2.2.2.1,x1.2.2.2.2.2.1,()))
abbrev fC:Type:=Int×Unit×Int×Int×Int×(List ah)×Unit
abbrev fq:Type:=((((List ah)×Unit) ⊕ ((List ah)×Unit)) ⊕ (Int×Unit×Int×Int×(List ah)×Unit))
def fk (x1:fC) (again:fC→Option fq):Option fq:=
 bif decide (x1.2.2.2.2.1≤x1.1) then
  Option.bind (cZ x1.2.2.2.2.2.1 x1.2.2.2.1 (w64 (x1.2.2.2.1+x1.2.2.1)) x1.2.2.2.2.1 x1.2.1) fun r2=>
  again (x1.1,x1.2.1,x1.2.2.1,x1.2.2.2.2.1,w64 (x1.2.2.2.2.1+(w64 (2*x1.2.2.1))),r2.1,())
 else
  some (Sum.inr (x1.1,x1.2.1,x1.2.2.1,x1.2.2.2.1,x1.2.2.2.2.2.1,()))
abbrev fB:Type:=Int×Unit×Int×(List ah)×Unit
abbrev fo:Type:=(((List ah)×Unit) ⊕ ((List ah)×Unit))
def fh (x1:fB) (again:fB→Option fo):Option fo:=
 bif decide (x1.2.2.1<x1.1) then
  aK (β:=(((List ah)×Unit) ⊕ ((List ah)×Unit))) (γ:=(Int×Unit×Int×Int×(List ah)×Unit)) (
   iter (X:=fC) (β:=fq) (x1.1.natAbs+(x1.2.2.1.natAbs+(Int.natAbs (0:Int)+(Int.natAbs (w64 (2*x1.2.2.1))+(x1.2.2.2.1.length+2))))) (x1.1,x1.2.1,x1.2.2.1,0,w64 (2*x1.2.2.1),x1.2.2.2.1,()) (fk)) fun v2=>
  bif decide ((w64 (v2.2.2.2.1+v2.2.2.1))<v2.1) then
   Option.bind (cZ v2.2.2.2.2.1 v2.2.2.2.1 (w64 (v2.2.2.2.1+v2.2.2.1)) v2.1 v2.2.1) fun r3=>
   again (v2.1,v2.2.1,w64 (v2.2.2.1*2),r3.1,())
  else
   again (v2.1,v2.2.1,w64 (v2.2.2.1*2),v2.2.2.2.2.1,())
 else
  some (Sum.inr (x1.2.2.2.1,()))
def jb (a0:List ah) (a1:Int) (a2:Unit):Option ((List ah)×Unit):=
 aK (β:=((List ah)×Unit)) (γ:=(Int×Unit×Int×Int×(List ah)×Unit)) (
  iter (X:=fA) (β:=fm) (Int.natAbs a1+(Int.natAbs (20:Int)+(Int.natAbs (0:Int)+(Int.natAbs (20:Int)+(List.length a0+2))))) (a1,a2,20,0,20,a0,()) (ff)) fun v3=>
 Option.bind (cr v3.2.2.2.2.1 v3.2.2.2.1 v3.1 v3.2.1) fun r4=>
 aK (β:=((List ah)×Unit)) (γ:=((List ah)×Unit)) (
  iter (X:=fB) (β:=fo) (v3.1.natAbs+(v3.2.2.1.natAbs+(r4.1.length+2))) (v3.1,v3.2.1,v3.2.2.1,r4.1,()) (fh)) fun v10=>
 some (v10.1,())
def fP (a0:List ah) (a1:Unit):Option ((List ah)×Unit):=
 Option.bind (jb a0 ((List.length a0:Int)) a1) fun r1=>
 some (r1.1,())
abbrev jy:Type:=(List ai)×(List ah)×(List aa)×Int×Int×Unit
abbrev jx:Type:=(((List ah)×Bool×Unit) ⊕ ((List ah)×Unit))
def iu (x1:jy) (again:jy→Option jx):Option jx:=
 bif decide (x1.2.2.2.2.1<x1.2.2.2.1) then
  Option.bind (idx x1.2.2.1 x1.2.2.2.2.1) fun y2=>
  Option.bind (rm [y2] x1.1) fun r3=>
  bif !r3.2.1 then
   some (Sum.inl ([],false,()))
  else
   Option.bind (yl 3) fun r4=>
   Option.bind (iP r3.1 r4.1) fun r5=>
   chk (decide (((x1.2.1.length)+1)*40≤140737488355328)&&decide ((x1.2.1.length)+1≤maxLen)) <|
   again (x1.1,x1.2.1++[(x1.2.2.2.2.1,r5.1)],x1.2.2.1,x1.2.2.2.1,w64 (x1.2.2.2.2.1+1),())
 else
  some (Sum.inr (x1.2.1,()))
def ox (a0:List aa) (a1:List ai):Option ((List ah)×Bool×Unit):=
 aK (β:=((List ah)×Bool×Unit)) (γ:=((List ah)×Unit)) (
  iter (X:=jy) (β:=jx) (List.length a1+(List.length ([]:List ah)+(List.length a0+(Int.natAbs ((List.length a0:Int))+(Int.natAbs (0:Int)+2))))) (a1,[],a0,(List.length a0:Int),0,()) (iu)) fun v6=>
 Option.bind (fP v6.1 ()) fun r7=>
 some (r7.1,true,())
def B5 (a0:aL) (a1:ah) (a2:aL):Option (Bool×Unit):=
 Option.bind (fQ a0 a1.2) fun r1=>
 Option.bind (gO r1.1 a2) fun r2=>
 some (decide (r2.1≤0),())
abbrev gY:Type:=(List aL)×(ah×aL)×Int×Int×Unit
abbrev gX:Type:=((Int×Unit) ⊕ Unit)
def fM (x1:gY) (again:gY→Option gX):Option gX:=
 bif decide (x1.2.2.2.1<x1.2.2.1) then
  Option.bind (idx x1.1 x1.2.2.2.1) fun y2=>
  Option.bind (B5 y2 x1.2.1.1 x1.2.1.2) fun r3=>
  bif r3.1 then
   some (Sum.inl (x1.2.2.2.1,()))
  else
   again (x1.1,x1.2.1,x1.2.2.1,w64 (x1.2.2.2.1+1),())
 else
  some (Sum.inr ())
def gG (a0:List aL) (a1:ah×aL):Option (Int×Unit):=
 aK (β:=(Int×Unit)) (γ:=Unit) (
  iter (X:=gY) (β:=gX) (List.length a0+(Int.natAbs ((List.length a0:Int))+(Int.natAbs (0:Int)+2))) (a0,a1,(List.length a0:Int),0,()) (fM)) fun _=>
 some ((-1),())
noncomputable def de (a0:List aa):Option ((List aa)×Unit):=
 bif List.isEmpty a0 then
  both (
   some ([],())) (
   chk (decide ((0+(List.length a0))*72≤140737488355328)&&decide (0+(List.length a0)≤maxLen)) <|
   some (a0,()))
 else
  chk (decide ((0+(List.length a0))*72≤140737488355328)&&decide (0+(List.length a0)≤maxLen)) <|
  some (a0,())
noncomputable def ko (a0:List aW):Option ((List aW)×Unit):=
 bif List.isEmpty a0 then
  both (
   some ([],())) (
   chk (decide ((0+(List.length a0))*64≤140737488355328)&&decide (0+(List.length a0)≤maxLen)) <|
   some (a0,()))
 else
  chk (decide ((0+(List.length a0))*64≤140737488355328)&&decide (0+(List.length a0)≤maxLen)) <|
  some (a0,())
abbrev iY:Type:=Int×Int×(List aa)×Unit
abbrev lP:Type:=(((List aa)×Unit) ⊕ ((List aa)×Unit))
noncomputable def lN (x1:iY) (again:iY→Option lP):Option lP:=
 bif decide (x1.2.1<x1.1) then
  chk (decide (0≤x1.2.1)&&decide (x1.2.1<(x1.2.2.1.length:Int))) <|
  Option.bind (x1.2.2.1[x1.2.1.toNat]?) fun y2=>
  Option.bind (ko y2.2.2.2) fun r3=>
  chk (decide (0≤x1.2.1)&&decide (x1.2.1<(x1.2.2.1.length:Int))) <|
  Option.bind (x1.2.2.1[x1.2.1.toNat]?) fun y4=>
  again (x1.1,w64 (x1.2.1+1),List.set x1.2.2.1 x1.2.1.toNat (y4.1,y4.2.1,y4.2.2.1,r3.1),())
 else
  some (Sum.inr (x1.2.2.1,()))
noncomputable def iS (a0:List aa):Option ((List aa)×Unit):=
 Option.bind (de a0) fun r1=>
 aK (β:=((List aa)×Unit)) (γ:=((List aa)×Unit)) (
  iter (X:=iY) (β:=lP) (Int.natAbs ((r1.1.length:Int))+(Int.natAbs (0:Int)+(r1.1.length+2))) ((r1.1.length:Int),0,r1.1,()) (lN)) fun v6=>
 some (v6.1,())
abbrev jr:Type:=(List aa)×(List UInt8)×Int×(List aL)×(List ah)×Int×Int×Bool×(List Int)×(List Int)×Unit
abbrev jk:Type:=(((List aa)×Int×Unit) ⊕ ((List aa)×(List UInt8)×Int×(List aL)×(List Int)×Unit))
noncomputable def ig (x1:jr) (again:jr→Option jk):Option jk:=
 bif decide (x1.2.2.2.2.2.2.1<x1.2.2.2.2.2.1) then
  Option.bind (idx x1.2.2.2.2.1 x1.2.2.2.2.2.2.1) fun y2=>
  Option.bind (gG x1.2.2.2.1 (y2,x1.2.2.2.2.2.2.2.1,x1.2.2.2.2.2.2.2.2.1)) fun r3=>
  aK (β:=(((List aa)×Int×Unit) ⊕ ((List aa)×(List UInt8)×Int×(List aL)×(List Int)×Unit))) (γ:=((List aa)×(List UInt8)×Int×(List aL)×Int×(List ah)×Int×Int×Bool×(List Int)×Int×Bool×(List Int)×(List Int)×Unit)) (
   bif decide (r3.1<0) then
    Option.bind (qw 0) fun r4=>
    chk (decide (((x1.2.2.2.1.length)+1)*32≤140737488355328)&&decide ((x1.2.2.2.1.length)+1≤maxLen)) <|
    some (Sum.inr (x1.1,x1.2.1,x1.2.2.1,x1.2.2.2.1++[r4.1],(x1.2.2.2.1.length:Int),x1.2.2.2.2.1,x1.2.2.2.2.2.1,x1.2.2.2.2.2.2.1,x1.2.2.2.2.2.2.2.1,x1.2.2.2.2.2.2.2.2.1,y2.1,y2.2.1,y2.2.2,x1.2.2.2.2.2.2.2.2.2.1,()))
   else
    some (Sum.inr (x1.1,x1.2.1,x1.2.2.1,x1.2.2.2.1,r3.1,x1.2.2.2.2.1,x1.2.2.2.2.2.1,x1.2.2.2.2.2.2.1,x1.2.2.2.2.2.2.2.1,x1.2.2.2.2.2.2.2.2.1,y2.1,y2.2.1,y2.2.2,x1.2.2.2.2.2.2.2.2.2.1,()))) fun v5=>
  chk (decide (0≤v5.2.2.2.2.1)&&decide (v5.2.2.2.2.1<(v5.2.2.2.1.length:Int))) <|
  Option.bind (v5.2.2.2.1[v5.2.2.2.2.1.toNat]?) fun y6=>
  Option.bind (fQ y6 (v5.2.2.2.2.2.2.2.2.2.2.2.1,v5.2.2.2.2.2.2.2.2.2.2.2.2.1)) fun r7=>
  chk (decide (0≤v5.2.2.2.2.1)&&decide (v5.2.2.2.2.1<(v5.2.2.2.1.length:Int))) <|
  Option.bind (v5.2.2.2.1[v5.2.2.2.2.1.toNat]?) fun _=>
  chk (decide (0≤v5.2.2.2.2.2.2.2.2.2.2.1)&&decide (v5.2.2.2.2.2.2.2.2.2.2.1<(v5.2.2.2.2.2.2.2.2.2.2.2.2.2.1.length:Int))) <|
  Option.bind (v5.2.2.2.2.2.2.2.2.2.2.2.2.2.1[v5.2.2.2.2.2.2.2.2.2.2.1.toNat]?) fun _=>
  again (v5.1,v5.2.1,v5.2.2.1,List.set v5.2.2.2.1 v5.2.2.2.2.1.toNat r7.1,v5.2.2.2.2.2.1,v5.2.2.2.2.2.2.1,w64 (v5.2.2.2.2.2.2.2.1+1),v5.2.2.2.2.2.2.2.2.1,v5.2.2.2.2.2.2.2.2.2.1,List.set v5.2.2.2.2.2.2.2.2.2.2.2.2.2.1 v5.2.2.2.2.2.2.2.2.2.2.1.toNat v5.2.2.2.2.1,())
 else
  some (Sum.inr (x1.1,x1.2.1,x1.2.2.1,x1.2.2.2.1,x1.2.2.2.2.2.2.2.2.2.1,()))
abbrev gq:Type:=(List aa)×(List UInt8)×Int×(List (List UInt8))×Int×Int×(List Int)×(List aa)×Unit
abbrev gm:Type:=(((List aa)×Int×Unit) ⊕ ((List aa)×(List (List UInt8))×(List Int)×(List aa)×Unit))
noncomputable def fE (x1:gq) (again:gq→Option gm):Option gm:=
 bif decide (x1.2.2.2.2.2.1<x1.2.2.2.2.1) then
  Option.bind (bB x1.2.1 (w64 (x1.2.2.1+x1.2.2.2.2.2.1))) fun r2=>
  bif r2.2.1 != 0 then
   some (Sum.inl ([],r2.2.1,()))
  else
   chk (decide (((x1.2.2.2.1.length)+1)*16≤140737488355328)&&decide ((x1.2.2.2.1.length)+1≤maxLen)) <|
   again (x1.1,x1.2.1,x1.2.2.1,x1.2.2.2.1++[r2.1],x1.2.2.2.2.1,w64 (x1.2.2.2.2.2.1+1),x1.2.2.2.2.2.2.1,x1.2.2.2.2.2.2.2.1,())
 else
  some (Sum.inr (x1.1,x1.2.2.2.1,x1.2.2.2.2.2.2.1,x1.2.2.2.2.2.2.2.1,()))
abbrev ir:Type:=(List aa)×(List (List UInt8))×(List (List UInt8))×Int×Int×(List Int)×(List aa)×Unit
abbrev jl:Type:=(((List aa)×Int×Unit) ⊕ ((List aa)×(List (List UInt8))×(List Int)×(List aa)×Unit))
noncomputable def jj (x1:ir) (again:ir→Option jl):Option jl:=
 bif decide (x1.2.2.2.2.1<x1.2.2.2.1) then
  Option.bind (idx x1.2.2.1 x1.2.2.2.2.1) fun y2=>
  Option.bind (gu x1.1 y2) fun r3=>
  bif r3.1 then
   some (Sum.inl ([],7,()))
  else
   again (x1.1,x1.2.1,x1.2.2.1,x1.2.2.2.1,w64 (x1.2.2.2.2.1+1),x1.2.2.2.2.2.1,x1.2.2.2.2.2.2.1,())
 else
  some (Sum.inr (x1.1,x1.2.1,x1.2.2.2.2.2.1,x1.2.2.2.2.2.2.1,()))
abbrev jt:Type:=(List (List UInt8))×Int×Int×(List Int)×(List aa)×Unit
abbrev jm:Type:=(((List aa)×Int×Unit) ⊕ ((List (List UInt8))×(List aa)×Unit))
noncomputable def ij (x1:jt) (again:jt→Option jm):Option jm:=
 bif decide (x1.2.2.1<x1.2.1) then
  chk (decide (0≤x1.2.2.1)&&decide (x1.2.2.1<(x1.2.2.2.1.length:Int))) <|
  Option.bind (x1.2.2.2.1[x1.2.2.1.toNat]?) fun y2=>
  Option.bind (idx x1.1 y2) fun y3=>
  chk (decide (0≤x1.2.2.1)&&decide (x1.2.2.1<(x1.2.2.2.2.1.length:Int))) <|
  Option.bind (x1.2.2.2.2.1[x1.2.2.1.toNat]?) fun y4=>
  again (x1.1,x1.2.1,w64 (x1.2.2.1+1),x1.2.2.2.1,List.set x1.2.2.2.2.1 x1.2.2.1.toNat (y4.1,y3,y4.2.2),())
 else
  some (Sum.inr (x1.1,x1.2.2.2.2.1,()))
abbrev jv:Type:=(List aa)×(List (List UInt8))×Int×Int×Unit
abbrev jq:Type:=(((List aa)×Int×Unit) ⊕ ((List aa)×Unit))
noncomputable def iq (x1:jv) (again:jv→Option jq):Option jq:=
 bif decide (x1.2.2.2.1<x1.2.2.1) then
  Option.bind (idx x1.2.1 x1.2.2.2.1) fun y2=>
  chk (decide (((x1.1.length)+1)*72≤140737488355328)&&decide ((x1.1.length)+1≤maxLen)) <|
  again (x1.1++[(y2,[],(0,0),[])],x1.2.1,x1.2.2.1,w64 (x1.2.2.2.1+1),())
 else
  some (Sum.inr (x1.1,()))
noncomputable def AQ (a0:List aa) (a1:List ai) (a2:ak) (a3:List UInt8) (a4:Int):Option ((List aa)×Int×Unit):=
 Option.bind (mK a0 a1 a2) fun r1=>
 bif r1.1 != 0 then
  some ([],r1.1,())
 else
  Option.bind (ox a0 a1) fun r2=>
  bif !r2.2.1 then
   some ([],5,())
  else
   Option.bind (vk a2) fun r3=>
   bif decide (((r2.1.length:Int))>0) then
    Option.bind (idx r2.1 0) fun y4=>
    Option.bind (gO y4.2 r3.1) fun r5=>
    bif decide (r5.1>0) then
     some ([],16,())
    else
     chk (decide (0≤((List.length a0:Int)))&&decide (((List.length a0:Int))≤((List.length a0:Int)))&&decide ((8:Int)*((List.length a0:Int))≤281474976710656)&&decide (((List.length a0:Int))≤9223372036854775807)) <|
     aK (β:=((List aa)×Int×Unit)) (γ:=((List aa)×(List UInt8)×Int×(List aL)×(List Int)×Unit)) (
      iter (X:=jr) (β:=jk) (List.length a0+(List.length a3+(Int.natAbs a4+(List.length ([]:List aL)+(r2.1.length+(Int.natAbs ((r2.1.length:Int))+(Int.natAbs (0:Int)+(r3.1.2.length+(List.length ((List.replicate (Int.toNat ((List.length a0:Int))) 0:List (Int)):List Int)+2))))))))) (a0,a3,a4,[],r2.1,(r2.1.length:Int),0,r3.1.1,r3.1.2,(List.replicate (Int.toNat ((List.length a0:Int))) 0:List (Int)),()) (ig)) fun v15=>
     Option.bind (iS v15.1) fun r16=>
     aK (β:=((List aa)×Int×Unit)) (γ:=((List aa)×(List (List UInt8))×(List Int)×(List aa)×Unit)) (
      iter (X:=gq) (β:=gm) (v15.1.length+(v15.2.1.length+(v15.2.2.1.natAbs+(List.length ([]:List (List UInt8))+(Int.natAbs ((v15.2.2.2.1.length:Int))+(Int.natAbs (0:Int)+(v15.2.2.2.2.1.length+(r16.1.length+2)))))))) (v15.1,v15.2.1,v15.2.2.1,[],(v15.2.2.2.1.length:Int),0,v15.2.2.2.2.1,r16.1,()) (fE)) fun v19=>
     aK (β:=((List aa)×Int×Unit)) (γ:=((List aa)×(List (List UInt8))×(List Int)×(List aa)×Unit)) (
      iter (X:=ir) (β:=jl) (v19.1.length+(v19.2.1.length+(v19.2.1.length+(Int.natAbs ((v19.2.1.length:Int))+(Int.natAbs (0:Int)+(v19.2.2.1.length+(v19.2.2.2.1.length+2))))))) (v19.1,v19.2.1,v19.2.1,(v19.2.1.length:Int),0,v19.2.2.1,v19.2.2.2.1,()) (jj)) fun v23=>
     bif decide ((w64 (((v23.1.length:Int))+((v23.2.1.length:Int))))>500) then
      some ([],2,())
     else
      aK (β:=((List aa)×Int×Unit)) (γ:=((List (List UInt8))×(List aa)×Unit)) (
       iter (X:=jt) (β:=jm) (v23.2.1.length+(Int.natAbs ((v23.2.2.2.1.length:Int))+(Int.natAbs (0:Int)+(v23.2.2.1.length+(v23.2.2.2.1.length+2))))) (v23.2.1,(v23.2.2.2.1.length:Int),0,v23.2.2.1,v23.2.2.2.1,()) (ij)) fun v28=>
      aK (β:=((List aa)×Int×Unit)) (γ:=((List aa)×Unit)) (
       iter (X:=jv) (β:=jq) (v28.2.1.length+(v28.1.length+(Int.natAbs ((v28.1.length:Int))+(Int.natAbs (0:Int)+2)))) (v28.2.1,v28.1,(v28.1.length:Int),0,()) (iq)) fun v31=>
      Option.bind (gH v31.1 ()) fun r32=>
      some (r32.1,0,())
   else
    chk (decide (0≤((List.length a0:Int)))&&decide (((List.length a0:Int))≤((List.length a0:Int)))&&decide ((8:Int)*((List.length a0:Int))≤281474976710656)&&decide (((List.length a0:Int))≤9223372036854775807)) <|
    aK (β:=((List aa)×Int×Unit)) (γ:=((List aa)×(List UInt8)×Int×(List aL)×(List Int)×Unit)) (
     iter (X:=jr) (β:=jk) (List.length a0+(List.length a3+(Int.natAbs a4+(List.length ([]:List aL)+(r2.1.length+(Int.natAbs ((r2.1.length:Int))+(Int.natAbs (0:Int)+(r3.1.2.length+(List.length ((List.replicate (Int.toNat ((List.length a0:Int))) 0:List (Int)):List Int)+2))))))))) (a0,a3,a4,[],r2.1,(r2.1.length:Int),0,r3.1.1,r3.1.2,(List.replicate (Int.toNat ((List.length a0:Int))) 0:List (Int)),()) (ig)) fun v42=>
    Option.bind (iS v42.1) fun r43=>
    aK (β:=((List aa)×Int×Unit)) (γ:=((List aa)×(List (List UInt8))×(List Int)×(List aa)×Unit)) (
     iter (X:=gq) (β:=gm) (v42.1.length+(v42.2.1.length+(v42.2.2.1.natAbs+(List.length ([]:List (List UInt8))+(Int.natAbs ((v42.2.2.2.1.length:Int))+(Int.natAbs (0:Int)+(v42.2.2.2.2.1.length+(r43.1.length+2)))))))) (v42.1,v42.2.1,v42.2.2.1,[],(v42.2.2.2.1.length:Int),0,v42.2.2.2.2.1,r43.1,()) (fE)) fun v46=>
    aK (β:=((List aa)×Int×Unit)) (γ:=((List aa)×(List (List UInt8))×(List Int)×(List aa)×Unit)) (
     iter (X:=ir) (β:=jl) (v46.1.length+(v46.2.1.length+(v46.2.1.length+(Int.natAbs ((v46.2.1.length:Int))+(Int.natAbs (0:Int)+(v46.2.2.1.length+(v46.2.2.2.1.length+2))))))) (v46.1,v46.2.1,v46.2.1,(v46.2.1.length:Int),0,v46.2.2.1,v46.2.2.2.1,()) (jj)) fun v50=>
    bif decide ((w64 (((v50.1.length:Int))+((v50.2.1.length:Int))))>500) then
     some ([],2,())
    else
     aK (β:=((List aa)×Int×Unit)) (γ:=((List (List UInt8))×(List aa)×Unit)) (
      iter (X:=jt) (β:=jm) (v50.2.1.length+(Int.natAbs ((v50.2.2.2.1.length:Int))+(Int.natAbs (0:Int)+(v50.2.2.1.length+(v50.2.2.2.1.length+2))))) (v50.2.1,(v50.2.2.2.1.length:Int),0,v50.2.2.1,v50.2.2.2.1,()) (ij)) fun v55=>
     aK (β:=((List aa)×Int×Unit)) (γ:=((List aa)×Unit)) (
      iter (X:=jv) (β:=jq) (v55.2.1.length+(v55.1.length+(Int.natAbs ((v55.1.length:Int))+(Int.natAbs (0:Int)+2)))) (v55.2.1,v55.1,(v55.1.length:Int),0,()) (iq)) fun v58=>
     Option.bind (gH v58.1 ()) fun r59=>
     some (r59.1,0,())
abbrev xd:Type:=(List aj)×(List Int)×Int×Int×Int×Int×Unit
abbrev xb:Type:=((((List Int)×Unit) ⊕ ((List Int)×Unit)) ⊕ ((List aj)×(List Int)×Int×Int×Int×Int×Unit))
def rB (x1:xd) (again:xd→Option xb):Option xb:=
 Option.bind (
  bif decide (x1.2.2.2.1>0) then
   Option.bind (idx x1.1 x1.2.2.1) fun y2=>
   chk (decide (0≤(w64 (x1.2.2.2.1 - 1)))&&decide ((w64 (x1.2.2.2.1 - 1))<(x1.2.1.length:Int))) <|
   Option.bind (x1.2.1[(w64 (x1.2.2.2.1 - 1)).toNat]?) fun y3=>
   Option.bind (idx x1.1 y3) fun y4=>
   Option.bind (A9 y2 y4) fun r5=>
   some (decide (r5.1>0),())
  else
   some (false,())) fun v6=>
 bif v6.1 then
  again (x1.1,x1.2.1,x1.2.2.1,w64 (x1.2.2.2.1 - 1),x1.2.2.2.2.1,x1.2.2.2.2.2.1,())
 else
  some (Sum.inr (x1.1,x1.2.1,x1.2.2.1,x1.2.2.2.1,x1.2.2.2.2.1,x1.2.2.2.2.2.1,()))
abbrev rC:Type:=(List aj)×(List Int)×Int×Int×Unit
abbrev w9:Type:=(((List Int)×Unit) ⊕ ((List Int)×Unit))
def w8 (x1:rC) (again:rC→Option w9):Option w9:=
 bif decide (x1.2.2.2.1<x1.2.2.1) then
  aK (β:=(((List Int)×Unit) ⊕ ((List Int)×Unit))) (γ:=((List aj)×(List Int)×Int×Int×Int×Int×Unit)) (
   iter (X:=xd) (β:=xb) (x1.1.length+(x1.2.1.length+(x1.2.2.2.1.natAbs+(Int.natAbs ((x1.2.1.length:Int))+(x1.2.2.1.natAbs+(x1.2.2.2.1.natAbs+2)))))) (x1.1,x1.2.1,x1.2.2.2.1,(x1.2.1.length:Int),x1.2.2.1,x1.2.2.2.1,()) (rB)) fun v2=>
  Option.bind (Ea v2.2.1 v2.2.2.2.1 [v2.2.2.1]) fun r3=>
  again (v2.1,r3.1,v2.2.2.2.2.1,w64 (v2.2.2.2.2.2.1+1),())
 else
  some (Sum.inr (x1.2.1,()))
def CG (a0:List aj):Option ((List Int)×Unit):=
 aK (β:=((List Int)×Unit)) (γ:=((List Int)×Unit)) (
  iter (X:=rC) (β:=w9) (List.length a0+(List.length ([]:List Int)+(Int.natAbs ((List.length a0:Int))+(Int.natAbs (0:Int)+2)))) (a0,[],(List.length a0:Int),0,()) (w8)) fun v10=>
 some (v10.1,())
abbrev A1:Type:=(List aj)×(List aj)×Int×Int×(List Int)×Int×Int×Bool×(List Int)×(List Int)×Unit
abbrev AZ:Type:=((((List Int)×Int×Unit) ⊕ ((List aj)×(List Int)×Unit)) ⊕ ((List aj)×(List aj)×Int×Int×(List Int)×Int×Int×Bool×(List Int)×(List Int)×Unit))
def vO (x1:A1) (again:A1→Option AZ):Option AZ:=
 Option.bind (
  bif decide (x1.2.2.2.1<((x1.2.1.length:Int))) then
   chk (decide (0≤x1.2.2.2.1)&&decide (x1.2.2.2.1<(x1.2.1.length:Int))) <|
   Option.bind (x1.2.1[x1.2.2.2.1.toNat]?) fun y2=>
   Option.bind (idx x1.1 x1.2.2.1) fun y3=>
   Option.bind (Ac y2 y3) fun r4=>
   Option.bind (A9 r4.1 (x1.2.2.2.2.2.2.2.1,x1.2.2.2.2.2.2.2.2.1)) fun r5=>
   some (decide (r5.1>0),())
  else
   some (false,())) fun v6=>
 bif v6.1 then
  again (x1.1,x1.2.1,x1.2.2.1,w64 (x1.2.2.2.1+1),x1.2.2.2.2.1,x1.2.2.2.2.2.1,x1.2.2.2.2.2.2.1,x1.2.2.2.2.2.2.2.1,x1.2.2.2.2.2.2.2.2.1,x1.2.2.2.2.2.2.2.2.2.1,())
 else
  some (Sum.inr (x1.1,x1.2.1,x1.2.2.1,x1.2.2.2.1,x1.2.2.2.2.1,x1.2.2.2.2.2.1,x1.2.2.2.2.2.2.1,x1.2.2.2.2.2.2.2.1,x1.2.2.2.2.2.2.2.2.1,x1.2.2.2.2.2.2.2.2.2.1,()))
abbrev A0:Type:=(List aj)×(List aj)×(List Int)×Int×Int×Bool×(List Int)×(List Int)×Unit
abbrev vP:Type:=(((List Int)×Int×Unit) ⊕ ((List aj)×(List Int)×Unit))
def vN (x1:A0) (again:A0→Option vP):Option vP:=
 bif decide (x1.2.2.2.2.1<x1.2.2.2.1) then
  Option.bind (idx x1.2.2.1 x1.2.2.2.2.1) fun y2=>
  aK (β:=(((List Int)×Int×Unit) ⊕ ((List aj)×(List Int)×Unit))) (γ:=((List aj)×(List aj)×Int×Int×(List Int)×Int×Int×Bool×(List Int)×(List Int)×Unit)) (
   iter (X:=A1) (β:=AZ) (x1.1.length+(x1.2.1.length+(Int.natAbs y2+(Int.natAbs (0:Int)+(x1.2.2.1.length+(x1.2.2.2.1.natAbs+(x1.2.2.2.2.1.natAbs+(x1.2.2.2.2.2.2.1.length+(x1.2.2.2.2.2.2.2.1.length+2))))))))) (x1.1,x1.2.1,y2,0,x1.2.2.1,x1.2.2.2.1,x1.2.2.2.2.1,x1.2.2.2.2.2.1,x1.2.2.2.2.2.2.1,x1.2.2.2.2.2.2.2.1,()) (vO)) fun v3=>
  aK (β:=(((List Int)×Int×Unit) ⊕ ((List aj)×(List Int)×Unit))) (γ:=((List aj)×(List aj)×Int×Int×(List Int)×Int×Int×Bool×(List Int)×(List Int)×Unit)) (
   bif v3.2.2.2.1==((v3.2.1.length:Int)) then
    chk (decide (((v3.2.1.length)+1)*32≤140737488355328)&&decide ((v3.2.1.length)+1≤maxLen)) <|
    some (Sum.inr (v3.1,v3.2.1++[(false,[])],v3.2.2.1,v3.2.2.2.1,v3.2.2.2.2.1,v3.2.2.2.2.2.1,v3.2.2.2.2.2.2.1,v3.2.2.2.2.2.2.2.1,v3.2.2.2.2.2.2.2.2.1,v3.2.2.2.2.2.2.2.2.2.1,()))
   else
    some (Sum.inr (v3.1,v3.2.1,v3.2.2.1,v3.2.2.2.1,v3.2.2.2.2.1,v3.2.2.2.2.2.1,v3.2.2.2.2.2.2.1,v3.2.2.2.2.2.2.2.1,v3.2.2.2.2.2.2.2.2.1,v3.2.2.2.2.2.2.2.2.2.1,()))) fun v4=>
  chk (decide (0≤v4.2.2.2.1)&&decide (v4.2.2.2.1<(v4.2.1.length:Int))) <|
  Option.bind (v4.2.1[v4.2.2.2.1.toNat]?) fun y5=>
  Option.bind (idx v4.1 v4.2.2.1) fun y6=>
  Option.bind (Ac y5 y6) fun r7=>
  chk (decide (0≤v4.2.2.2.1)&&decide (v4.2.2.2.1<(v4.2.1.length:Int))) <|
  Option.bind (v4.2.1[v4.2.2.2.1.toNat]?) fun _=>
  chk (decide (0≤v4.2.2.1)&&decide (v4.2.2.1<(v4.2.2.2.2.2.2.2.2.2.1.length:Int))) <|
  Option.bind (v4.2.2.2.2.2.2.2.2.2.1[v4.2.2.1.toNat]?) fun _=>
  again (v4.1,List.set v4.2.1 v4.2.2.2.1.toNat r7.1,v4.2.2.2.2.1,v4.2.2.2.2.2.1,w64 (v4.2.2.2.2.2.2.1+1),v4.2.2.2.2.2.2.2.1,v4.2.2.2.2.2.2.2.2.1,List.set v4.2.2.2.2.2.2.2.2.2.1 v4.2.2.1.toNat v4.2.2.2.1,())
 else
  some (Sum.inr (x1.2.1,x1.2.2.2.2.2.2.2.1,()))
def GF (a0:List aj) (a1:aj):Option ((List Int)×Int×Unit):=
 chk (decide (0≤((List.length a0:Int)))&&decide (((List.length a0:Int))≤((List.length a0:Int)))&&decide ((8:Int)*((List.length a0:Int))≤281474976710656)&&decide (((List.length a0:Int))≤9223372036854775807)) <|
 Option.bind (CG a0) fun r1=>
 aK (β:=((List Int)×Int×Unit)) (γ:=((List aj)×(List Int)×Unit)) (
  iter (X:=A0) (β:=vP) (List.length a0+(List.length ([]:List aj)+(r1.1.length+(Int.natAbs ((r1.1.length:Int))+(Int.natAbs (0:Int)+(a1.2.length+(List.length ((List.replicate (Int.toNat ((List.length a0:Int))) 0:List (Int)):List Int)+2))))))) (a0,[],r1.1,(r1.1.length:Int),0,a1.1,a1.2,(List.replicate (Int.toNat ((List.length a0:Int))) 0:List (Int)),()) (vN)) fun v17=>
 some (v17.2.1,(v17.1.length:Int),())
abbrev yQ:Type:=(List aa)×Int×(List UInt8)×(List UInt8)×Int×Int×(List aW)×Unit
abbrev yP:Type:=(((List aa)×Unit) ⊕ ((List aa)×Int×(List UInt8)×(List UInt8)×Int×Int×(List aW)×Unit))
noncomputable def tQ (x1:yQ) (again:yQ→Option yP):Option yP:=
 Option.bind (
  bif decide (x1.2.1<((x1.1.length:Int))) then
   Option.bind (idx x1.1 x1.2.1) fun y2=>
   some (Op.bytesLess y2.1 x1.2.2.1,())
  else
   some (false,())) fun v3=>
 bif v3.1 then
  again (x1.1,w64 (x1.2.1+1),x1.2.2.1,x1.2.2.2.1,x1.2.2.2.2.1,x1.2.2.2.2.2.1,x1.2.2.2.2.2.2.1,())
 else
  some (Sum.inr (x1.1,x1.2.1,x1.2.2.1,x1.2.2.2.1,x1.2.2.2.2.1,x1.2.2.2.2.2.1,x1.2.2.2.2.2.2.1,()))
noncomputable def Eo (a0:List aa) (a1:aa):Option ((List aa)×Unit):=
 aK (β:=((List aa)×Unit)) (γ:=((List aa)×Int×(List UInt8)×(List UInt8)×Int×Int×(List aW)×Unit)) (
  iter (X:=yQ) (β:=yP) (List.length a0+(Int.natAbs (0:Int)+(a1.1.length+(a1.2.1.length+(a1.2.2.1.1.natAbs+(a1.2.2.1.2.natAbs+(a1.2.2.2.length+2))))))) (a0,0,a1.1,a1.2.1,a1.2.2.1.1,a1.2.2.1.2,a1.2.2.2,()) (tQ)) fun v4=>
 Option.bind (de v4.1) fun r5=>
 Option.bind (nH r5.1 v4.2.1 [(v4.2.2.1,v4.2.2.2.1,(v4.2.2.2.2.1,v4.2.2.2.2.2.1),v4.2.2.2.2.2.2.1)]) fun r6=>
 some (r6.1,())
abbrev vM:Type:=(List aa)×(List ai)×(List UInt8)×Int×(List aa)×Int×Int×Int×Int×Unit
abbrev AX:Type:=(((List aa)×Int×Unit) ⊕ ((List aa)×(List ai)×(List UInt8)×Int×Int×Int×Unit))
noncomputable def AW (x1:vM) (again:vM→Option AX):Option AX:=
 bif decide (x1.2.2.2.2.2.2.1<x1.2.2.2.2.2.1) then
  Option.bind (idx x1.2.2.2.2.1 x1.2.2.2.2.2.2.1) fun y2=>
  bif !(y2.2.1==[]) then
   some (Sum.inl ([],3,()))
  else
   again (x1.1,x1.2.1,x1.2.2.1,x1.2.2.2.1,x1.2.2.2.2.1,x1.2.2.2.2.2.1,w64 (x1.2.2.2.2.2.2.1+1),x1.2.2.2.2.2.2.2.1,x1.2.2.2.2.2.2.2.2.1,())
 else
  some (Sum.inr (x1.1,x1.2.1,x1.2.2.1,x1.2.2.2.1,x1.2.2.2.2.2.2.2.1,x1.2.2.2.2.2.2.2.2.1,()))
abbrev oA:Type:=(List aa)×(List ai)×(List UInt8)×Int×(List aj)×Int×Int×Int×Int×Unit
abbrev tJ:Type:=(((List aa)×Int×Unit) ⊕ ((List aa)×(List UInt8)×Int×(List aj)×Int×Int×Unit))
noncomputable def tH (x1:oA) (again:oA→Option tJ):Option tJ:=
 bif decide (x1.2.2.2.2.2.2.1<x1.2.2.2.2.2.1) then
  Option.bind (DH x1.1 x1.2.1 [x1.2.2.2.2.2.2.1]) fun r2=>
  bif !r2.2.1 then
   some (Sum.inl ([],5,()))
  else
   chk (decide (((x1.2.2.2.2.1.length)+1)*32≤140737488355328)&&decide ((x1.2.2.2.2.1.length)+1≤maxLen)) <|
   again (x1.1,x1.2.1,x1.2.2.1,x1.2.2.2.1,x1.2.2.2.2.1++[r2.1],x1.2.2.2.2.2.1,w64 (x1.2.2.2.2.2.2.1+1),x1.2.2.2.2.2.2.2.1,x1.2.2.2.2.2.2.2.2.1,())
 else
  some (Sum.inr (x1.1,x1.2.2.1,x1.2.2.2.1,x1.2.2.2.2.1,x1.2.2.2.2.2.2.2.1,x1.2.2.2.2.2.2.2.2.1,()))
abbrev tM:Type:=(List aa)×(List UInt8)×Int×(List aj)×(List aj)×Int×Int×Int×Int×Unit
abbrev yK:Type:=(((List aa)×Int×Unit) ⊕ ((List aa)×(List UInt8)×Int×(List aj)×Int×Int×Unit))
noncomputable def yJ (x1:tM) (again:tM→Option yK):Option yK:=
 bif decide (x1.2.2.2.2.2.2.1<x1.2.2.2.2.2.1) then
  Option.bind (idx x1.2.2.2.2.1 x1.2.2.2.2.2.2.1) fun y2=>
  Option.bind (pN (x1.2.2.2.2.2.2.2.1,x1.2.2.2.2.2.2.2.2.1)) fun r3=>
  Option.bind (A9 y2 r3.1) fun r4=>
  bif decide (r4.1>0) then
   some (Sum.inl ([],16,()))
  else
   again (x1.1,x1.2.1,x1.2.2.1,x1.2.2.2.1,x1.2.2.2.2.1,x1.2.2.2.2.2.1,w64 (x1.2.2.2.2.2.2.1+1),x1.2.2.2.2.2.2.2.1,x1.2.2.2.2.2.2.2.2.1,())
 else
  some (Sum.inr (x1.1,x1.2.1,x1.2.2.1,x1.2.2.2.1,x1.2.2.2.2.2.2.2.1,x1.2.2.2.2.2.2.2.2.1,()))
abbrev tN:Type:=(List aa)×(List UInt8)×Int×(List Int)×Int×Int×Int×(List aa)×Unit
abbrev tK:Type:=(((List aa)×Int×Unit) ⊕ ((List aa)×(List UInt8)×Int×Int×(List aa)×Unit))
noncomputable def oy (x1:tN) (again:tN→Option tK):Option tK:=
 bif decide (x1.2.2.2.2.2.2.1<x1.2.2.2.2.2.1) then
  Option.bind (idx x1.2.2.2.1 x1.2.2.2.2.2.2.1) fun y2=>
  Option.bind (jM x1.2.1 (w64 (x1.2.2.1+y2))) fun r3=>
  chk (decide (0≤x1.2.2.2.2.2.2.1)&&decide (x1.2.2.2.2.2.2.1<(x1.2.2.2.2.2.2.2.1.length:Int))) <|
  Option.bind (x1.2.2.2.2.2.2.2.1[x1.2.2.2.2.2.2.1.toNat]?) fun y4=>
  again (x1.1,x1.2.1,x1.2.2.1,x1.2.2.2.1,x1.2.2.2.2.1,x1.2.2.2.2.2.1,w64 (x1.2.2.2.2.2.2.1+1),List.set x1.2.2.2.2.2.2.2.1 x1.2.2.2.2.2.2.1.toNat (y4.1,r3.1,y4.2.2),())
 else
  some (Sum.inr (x1.1,x1.2.1,x1.2.2.1,x1.2.2.2.2.1,x1.2.2.2.2.2.2.2.1,()))
abbrev tO:Type:=(List aa)×(List UInt8)×Int×(List aa)×Int×Int×Unit
abbrev tL:Type:=(((List aa)×Int×Unit) ⊕ ((List aa)×Unit))
noncomputable def oz (x1:tO) (again:tO→Option tL):Option tL:=
 bif decide (x1.2.2.2.2.2.1<x1.2.2.2.2.1) then
  Option.bind (jM x1.2.1 (w64 (x1.2.2.1+x1.2.2.2.2.2.1))) fun r2=>
  Option.bind (nE x1.1 r2.1) fun r3=>
  bif decide (r3.1≥0) then
   some (Sum.inl ([],7,()))
  else
   Option.bind (Eo x1.2.2.2.1 (r2.1,[],(0,0),[])) fun r4=>
   again (x1.1,x1.2.1,x1.2.2.1,r4.1,x1.2.2.2.2.1,w64 (x1.2.2.2.2.2.1+1),())
 else
  some (Sum.inr (x1.2.2.2.1,()))
noncomputable def GD (a0:List aa) (a1:List ai) (a2:ak) (a3:List UInt8) (a4:Int):Option ((List aa)×Int×Unit):=
 Option.bind (uQ ([97],[97],1,a0)) fun r1=>
 bif r1.1 != 0 then
  some ([],r1.1,())
 else
  aK (β:=((List aa)×Int×Unit)) (γ:=((List aa)×(List ai)×(List UInt8)×Int×Int×Int×Unit)) (
   iter (X:=vM) (β:=AX) (List.length a0+(List.length a1+(List.length a3+(Int.natAbs a4+(List.length a0+(Int.natAbs ((List.length a0:Int))+(Int.natAbs (0:Int)+(a2.1.natAbs+(a2.2.natAbs+2))))))))) (a0,a1,a3,a4,a0,(List.length a0:Int),0,a2.1,a2.2,()) (AW)) fun v4=>
  Option.bind (uR v4.2.1) fun r5=>
  bif r5.1 != 0 then
   some ([],r5.1,())
  else
   Option.bind (jZ (v4.2.2.2.2.1,v4.2.2.2.2.2.1)) fun r6=>
   bif r6.1 != 0 then
    some ([],r6.1,())
   else
    aK (β:=((List aa)×Int×Unit)) (γ:=((List aa)×(List UInt8)×Int×(List aj)×Int×Int×Unit)) (
     iter (X:=oA) (β:=tJ) (v4.1.length+(v4.2.1.length+(v4.2.2.1.length+(v4.2.2.2.1.natAbs+(List.length ([]:List aj)+(Int.natAbs ((v4.1.length:Int))+(Int.natAbs (0:Int)+(v4.2.2.2.2.1.natAbs+(v4.2.2.2.2.2.1.natAbs+2))))))))) (v4.1,v4.2.1,v4.2.2.1,v4.2.2.2.1,[],(v4.1.length:Int),0,v4.2.2.2.2.1,v4.2.2.2.2.2.1,()) (tH)) fun v9=>
    aK (β:=((List aa)×Int×Unit)) (γ:=((List aa)×(List UInt8)×Int×(List aj)×Int×Int×Unit)) (
     iter (X:=tM) (β:=yK) (v9.1.length+(v9.2.1.length+(v9.2.2.1.natAbs+(v9.2.2.2.1.length+(v9.2.2.2.1.length+(Int.natAbs ((v9.2.2.2.1.length:Int))+(Int.natAbs (0:Int)+(v9.2.2.2.2.1.natAbs+(v9.2.2.2.2.2.1.natAbs+2))))))))) (v9.1,v9.2.1,v9.2.2.1,v9.2.2.2.1,v9.2.2.2.1,(v9.2.2.2.1.length:Int),0,v9.2.2.2.2.1,v9.2.2.2.2.2.1,()) (yJ)) fun v14=>
    Option.bind (pN (v14.2.2.2.2.1,v14.2.2.2.2.2.1)) fun r15=>
    Option.bind (GF v14.2.2.2.1 r15.1) fun r16=>
    Option.bind (AY v14.2.1 v14.2.2.1 r16.2.1) fun r17=>
    bif r17.1 != 0 then
     some ([],r17.1,())
    else
     Option.bind (de v14.1) fun r18=>
     aK (β:=((List aa)×Int×Unit)) (γ:=((List aa)×(List UInt8)×Int×Int×(List aa)×Unit)) (
      iter (X:=tN) (β:=tK) (v14.1.length+(v14.2.1.length+(v14.2.2.1.natAbs+(r16.1.length+(r16.2.1.natAbs+(Int.natAbs ((r18.1.length:Int))+(Int.natAbs (0:Int)+(r18.1.length+2)))))))) (v14.1,v14.2.1,v14.2.2.1,r16.1,r16.2.1,(r18.1.length:Int),0,r18.1,()) (oy)) fun v23=>
     aK (β:=((List aa)×Int×Unit)) (γ:=((List aa)×Unit)) (
      iter (X:=tO) (β:=tL) (v23.1.length+(v23.2.1.length+(v23.2.2.1.natAbs+(v23.2.2.2.2.1.length+(v23.2.2.2.1.natAbs+(Int.natAbs (0:Int)+2)))))) (v23.1,v23.2.1,v23.2.2.1,v23.2.2.2.2.1,v23.2.2.2.1,0,()) (oz)) fun v28=>
     bif decide (((v28.1.length:Int))>500) then
      some ([],2,())
     else
      some (v28.1,0,())
noncomputable def jS (a0:List ai) (a1:List ai) (a2:List aa) (a3:List ai) (a4:ak) (a5:List UInt8) (a6:Int):Option (Bool×Unit):=
 Option.bind (bB a5 a6) fun r1=>
 Option.bind (jM a5 a6) fun r2=>
 bif r1.2.1 != r2.2.1 then
  some (false,())
 else
  bif !(r1.1==r2.1) then
   some (false,())
  else
   Option.bind (CE a0 a1 a5 a6) fun r3=>
   Option.bind (J2 a0 a1 a5 a6) fun r4=>
   bif r3.2.1 != r4.2.1 then
    some (false,())
   else
    Option.bind (pJ r3.1 r4.1) fun r5=>
    bif !r5.1 then
     some (false,())
    else
     Option.bind (AQ a2 a3 a4 a5 a6) fun r6=>
     Option.bind (GD a2 a3 a4 a5 a6) fun r7=>
     Option.bind (
      bif r6.2.1==r7.2.1 then
       Option.bind (pJ r6.1 r7.1) fun r8=>
       bif r8.1 then
        Option.bind (Mp) fun r9=>
        some (r9.1,())
       else
        some (false,())
      else
       some (false,())) fun v10=>
     some (v10.1,())
end
end Go.Md
