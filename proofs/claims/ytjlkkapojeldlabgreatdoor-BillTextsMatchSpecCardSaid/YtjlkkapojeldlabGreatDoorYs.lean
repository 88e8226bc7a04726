/-
  Plain facts: deeds checked. No condition.
-/
import Derived.Test.YtjlkkapojeldlabGreatDoorYo
import Derived.Test.YtjlkkapojeldlabGreatDoorYr
import Derived.Test.YtjlkkapojeldlabGreatDoorYq
namespace Go.Md
open Go.Dn
end Go.Md
namespace Go.Md
open Go.Dn
end Go.Md
namespace Go.Md
open Go.Dn
structure ko where
 no:Int
 art:Bys
 unit:Bys
 ord:Int
 shp:Int
 rcv:Int
 ret:Int
 price:ah
 due:Int
 wish:Int
 ono:Int
 oq:Int
 ount:Int
abbrev ko.tup (x:ko):RJ:=(x.no,x.art,x.unit,x.ord,x.shp,x.rcv,x.ret,x.price,x.due,x.wish,x.ono,x.oq,x.ount)
def ko.opn (x:ko):Int:=if x.ord - x.shp+x.ret>0 then x.ord - x.shp+x.ret else 0
structure LOk (x:ko):Prop where
 ret0:0<=x.ret
 retr:x.ret<=x.rcv
 rcvs:x.rcv<=x.shp
 shp1:x.shp<=1000000000000000
 ord0:0<=x.ord
 ord1:x.ord<=1000000000000
 off:x.ono≠0->0<x.oq/\x.oq+x.shp - x.ret<=x.ord
def Ys (n:Int) (i:Nat):List ko->Option Nat
 | []=>none
 | x::r=>if n=x.no then some i else Ys n (i+1) r
abbrev acF (n:Int) (A:List ko):Option Nat:=Ys n 0 A
end Go.Md
namespace Go.Md
open Go.Dn
abbrev acD (d:eU):=d.2.2.2.1
abbrev acE (d:eU):=d.2.2.2.2.1
variable {o:C6} {l:List eU} {m:List (Int×Option Nat)} {ref:List ah} {pts:List tE} {wt:Int} {A:List ko} {k:Nat} {x:ko}
structure WOk (l:List eU) (x:ko):Prop where
 low: -1<=x.wish
 kind:0<=x.wish->∃ d,l[x.wish.toNat]? =some d/\acD d<=4
end Go.Md
namespace Go.Md
open Go.Dn
structure Sound (l:List eU) (A:List ko):Prop where
 line:∀ x,x∈A->LOk x/\WOk l x
variable {o:C6} {l:List eU} {ref:List ah} {pts:List tE} {wt:Int} {A:List ko}
end Go.Md
namespace Go.Md
open Go.Dn
variable {o:C6} {l:List eU} {ref:List ah} {pts:List tE} {wt:Int} {A:List ko}
end Go.Md
namespace Go.Md
open Go.Dn
def N8 (n:Int):ah:=((few 3 n).1,((few 3 n).2:Int))
def ab1 (d:ah):ah:=((few d.2.toNat d.1).1,((few d.2.toNat d.1).2:Int))
def acr (x:ko):Kx:=(x.no,x.art,x.unit,N8 x.ord,ab1 x.price,x.due,N8 x.shp,N8 x.rcv,N8 x.ret,N8 x.opn)
def acV (x:ko):Prop:=0<=x.price.1/\x.price.1<=1000000000000000/\0<=x.price.2/\x.price.2<=9
end Go.Md
namespace Go.Md
open Go.Dn
structure Good (l:List eU) (A:List ko):Prop where
 sound:Sound l A
 pr:∀ x,x∈A->acV x
def acM (n:Int) (A:List ko):Option ko:=(acF n A).bind fun k=>A[k]?
end Go.Md
namespace Go.Md
open Go.Dn
end Go.Md
namespace Go.Md
open Go.Dn
structure Pts (l:List eU) (wt:Int) (n:Nat) (A:List ko) (pts:List tE):Prop where
 pt:∀ (j:Nat) (p:tE),pts[j]? =some p->0<=p.1/\p.1<n/\(∃ d,idx l p.1=some d/\acE d=wt)/\∀ q,0<j->pts[j - 1]? =some q->q.1<p.1
 last:∀ p,pts.getLast? =some p->∃ x,acM wt A=some x/\p.2=acr x
end Go.Md
namespace Go.Md
open Go.Dn
end Go.Md
namespace Go.Md
open Go.Dn
def Txt (d:eU):Prop:=d.2.2.2.2.2.1.length+d.2.2.2.2.2.2.2.1.length<=maxLen
end Go.Md
