/-
  Plain facts: deeds checked. No condition.
-/
import Derived.Test.YtjlkkapojeldlabGreatDoorYo
import Derived.Test.YtjlkkapojeldlabGreatDoorYr
import Derived.Test.YtjlkkapojeldlabGreatDoorYq
namespace Go.Md
open Go.Dn
end Go.Md
namespace Go.Md
open Go.Dn
end Go.Md
namespace Go.Md
open Go.Dn
structure ko where
 no:Int
 art:Bys
 unit:Bys
 ord:Int
 shp:Int
 rcv:Int
 ret:Int
 price:ah
 due:Int
 wish:Int
 ono:Int
 oq:Int
 ount:Int
abbrev ko.tup (x:ko):OS:=(x.no,x.art,x.unit,x.ord,x.shp,x.rcv,x.ret,x.price,x.due,x.wish,x.ono,x.oq,x.ount)
def ko.opn (x:ko):Int:=if x.ord - x.shp+x.ret>0 then x.ord - x.shp+x.ret else 0
structure LOk (x:ko):Prop where
 ret0:0<=x.ret
 retr:x.ret<=x.rcv
 rcvs:x.rcv<=x.shp
 shp1:x.shp<=1000000000000000
 ord0:0<=x.ord
 ord1:x.ord<=1000000000000
 off:x.ono≠0->0<x.oq/\x.oq+x.shp - x.ret<=x.ord
def UC (n:Int) (i:Nat):List ko->Option Nat
 | []=>none
 | x::r=>if n=x.no then some i else UC n (i+1) r
abbrev Yi (n:Int) (A:List ko):Option Nat:=UC n 0 A
end Go.Md
namespace Go.Md
open Go.Dn
abbrev Yg (d:eM):=d.2.2.2.1
abbrev Yh (d:eM):=d.2.2.2.2.1
variable {o:Bu} {l:List eM} {m:List (Int×Option Nat)} {ref:List ah} {pts:List sN} {wt:Int} {A:List ko} {k:Nat} {x:ko}
structure WOk (l:List eM) (x:ko):Prop where
 low: -1<=x.wish
 kind:0<=x.wish->∃ d,l[x.wish.toNat]? =some d/\Yg d<=4
end Go.Md
namespace Go.Md
open Go.Dn
structure Sound (l:List eM) (A:List ko):Prop where
 line:∀ x,x∈A->LOk x/\WOk l x
variable {o:Bu} {l:List eM} {ref:List ah} {pts:List sN} {wt:Int} {A:List ko}
end Go.Md
namespace Go.Md
open Go.Dn
variable {o:Bu} {l:List eM} {ref:List ah} {pts:List sN} {wt:Int} {A:List ko}
end Go.Md
namespace Go.Md
open Go.Dn
def LC (n:Int):ah:=((few 3 n).1,((few 3 n).2:Int))
def XL (d:ah):ah:=((few d.2.toNat d.1).1,((few d.2.toNat d.1).2:Int))
def X7 (x:ko):Ip:=(x.no,x.art,x.unit,LC x.ord,XL x.price,x.due,LC x.shp,LC x.rcv,LC x.ret,LC x.opn)
def YB (x:ko):Prop:=0<=x.price.1/\x.price.1<=1000000000000000/\0<=x.price.2/\x.price.2<=9
end Go.Md
namespace Go.Md
open Go.Dn
structure Good (l:List eM) (A:List ko):Prop where
 sound:Sound l A
 pr:∀ x,x∈A->YB x
def Yp (n:Int) (A:List ko):Option ko:=(Yi n A).bind fun k=>A[k]?
end Go.Md
namespace Go.Md
open Go.Dn
end Go.Md
namespace Go.Md
open Go.Dn
structure Pts (l:List eM) (wt:Int) (n:Nat) (A:List ko) (pts:List sN):Prop where
 pt:∀ (j:Nat) (p:sN),pts[j]? =some p->0<=p.1/\p.1<n/\(∃ d,idx l p.1=some d/\Yh d=wt)/\∀ q,0<j->pts[j - 1]? =some q->q.1<p.1
 last:∀ p,pts.getLast? =some p->∃ x,Yp wt A=some x/\p.2=X7 x
end Go.Md
namespace Go.Md
open Go.Dn
end Go.Md
namespace Go.Md
open Go.Dn
def Txt (d:eM):Prop:=d.2.2.2.2.2.1.length+d.2.2.2.2.2.2.2.1.length<=maxLen
end Go.Md
