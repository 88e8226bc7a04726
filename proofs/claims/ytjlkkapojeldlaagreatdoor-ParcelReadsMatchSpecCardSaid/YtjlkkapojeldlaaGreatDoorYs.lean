/-
  Plain facts: deeds checked. No condition.
-/
import Derived.Test.YtjlkkapojeldlaaGreatDoorYo
import Derived.Test.YtjlkkapojeldlaaGreatDoorYr
import Derived.Test.YtjlkkapojeldlaaGreatDoorYq
namespace Go.Md
open Go.Dn
end Go.Md
namespace Go.Md
open Go.Dn
theorem NC {α:Type} {l:List α} {i:Nat} {y:α} (h:l[i]? =some y):idx l (i:Int)=some y:=by
 unfold idx
 rw[V7 (Int.natCast_nonneg i)]
 exact h
end Go.Md
namespace Go.Md
open Go.Dn
structure gW where
 no:Int
 art:List UInt8
 unit:List UInt8
 ord:Int
 shp:Int
 rcv:Int
 ret:Int
 price:ah
 due:Int
 wish:Int
 ono:Int
 oq:Int
 ount:Int
abbrev gW.tup (x:gW):KP:=(x.no,x.art,x.unit,x.ord,x.shp,x.rcv,x.ret,x.price,x.due,x.wish,x.ono,x.oq,x.ount)
def gW.opn (x:gW):Int:=if x.ord - x.shp+x.ret>0 then x.ord - x.shp+x.ret else 0
structure LOk (x:gW):Prop where
 ret0:0<=x.ret
 retr:x.ret<=x.rcv
 rcvs:x.rcv<=x.shp
 shp1:x.shp<=1000000000000000
 ord0:0<=x.ord
 ord1:x.ord<=1000000000000
 off:x.ono≠0->0<x.oq/\x.oq+x.shp - x.ret<=x.ord
def PJ (n:Int) (i:Nat):List gW->Option Nat
 | []=>none
 | x::r=>if n=x.no then some i else PJ n (i+1) r
abbrev SR (n:Int) (A:List gW):Option Nat:=PJ n 0 A
end Go.Md
namespace Go.Md
open Go.Dn
abbrev SP (d:bT):=d.2.2.2.1
abbrev SQ (d:bT):=d.2.2.2.2.1
variable {o:yb} {l:List bT} {m:List (Int×Option Nat)} {ref:List ah} {pts:List oT} {wt:Int} {A:List gW} {k:Nat} {x:gW}
structure WOk (l:List bT) (x:gW):Prop where
 low: -1<=x.wish
 kind:0<=x.wish->∃ d,l[x.wish.toNat]? =some d/\SP d<=4
end Go.Md
namespace Go.Md
open Go.Dn
structure Sound (l:List bT) (A:List gW):Prop where
 line:∀ x,x∈A->LOk x/\WOk l x
variable {o:yb} {l:List bT} {ref:List ah} {pts:List oT} {wt:Int} {A:List gW}
end Go.Md
namespace Go.Md
open Go.Dn
variable {o:yb} {l:List bT} {ref:List ah} {pts:List oT} {wt:Int} {A:List gW}
end Go.Md
namespace Go.Md
open Go.Dn
def Hv (n:Int):ah:=((few 3 n).1,((few 3 n).2:Int))
def Ss (d:ah):ah:=((few d.2.toNat d.1).1,((few d.2.toNat d.1).2:Int))
def SH (x:gW):Ee:=(x.no,x.art,x.unit,Hv x.ord,Ss x.price,x.due,Hv x.shp,Hv x.rcv,Hv x.ret,Hv x.opn)
def Ta (x:gW):Prop:=0<=x.price.1/\x.price.1<=1000000000000000/\0<=x.price.2/\x.price.2<=9
end Go.Md
namespace Go.Md
open Go.Dn
structure Good (l:List bT) (A:List gW):Prop where
 sound:Sound l A
 pr:∀ x,x∈A->Ta x
def SZ (n:Int) (A:List gW):Option gW:=(SR n A).bind fun k=>A[k]?
end Go.Md
namespace Go.Md
open Go.Dn
end Go.Md
namespace Go.Md
open Go.Dn
structure Pts (l:List bT) (wt:Int) (n:Nat) (A:List gW) (pts:List oT):Prop where
 pt:∀ (j:Nat) (p:oT),pts[j]? =some p->0<=p.1/\p.1<n/\(∃ d,idx l p.1=some d/\SQ d=wt)/\∀ q,0<j->pts[j - 1]? =some q->q.1<p.1
 last:∀ p,pts.getLast? =some p->∃ x,SZ wt A=some x/\p.2=SH x
end Go.Md
namespace Go.Md
open Go.Dn
end Go.Md
namespace Go.Md
open Go.Dn
def Txt (d:bT):Prop:=d.2.2.2.2.2.1.length+d.2.2.2.2.2.2.2.1.length<=maxLen
end Go.Md
