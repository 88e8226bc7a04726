/-
  Plain facts: deeds checked. No condition.
-/
import Derived.Test.YtjlkkapojeldlaaGreatDoorYo
import Derived.Test.YtjlkkapojeldlaaGreatDoorYr
import Derived.Test.YtjlkkapojeldlaaGreatDoorYq
namespace Go.Md
open Go.Dn
end Go.Md
namespace Go.Md
open Go.Dn
theorem Px {α:Type} {l:List α} {i:Nat} {y:α} (h:l[i]? =some y):idx l (i:Int)=some y:=by
 unfold idx
 rw[YR (Int.natCast_nonneg i)]
 exact h
end Go.Md
namespace Go.Md
open Go.Dn
structure iu where
 no:Int
 art:List UInt8
 unit:List UInt8
 ord:Int
 shp:Int
 rcv:Int
 ret:Int
 price:ah
 due:Int
 wish:Int
 ono:Int
 oq:Int
 ount:Int
abbrev iu.tup (x:iu):My:=(x.no,x.art,x.unit,x.ord,x.shp,x.rcv,x.ret,x.price,x.due,x.wish,x.ono,x.oq,x.ount)
def iu.opn (x:iu):Int:=if x.ord - x.shp+x.ret>0 then x.ord - x.shp+x.ret else 0
structure LOk (x:iu):Prop where
 ret0:0<=x.ret
 retr:x.ret<=x.rcv
 rcvs:x.rcv<=x.shp
 shp1:x.shp<=1000000000000000
 ord0:0<=x.ord
 ord1:x.ord<=1000000000000
 off:x.ono≠0->0<x.oq/\x.oq+x.shp - x.ret<=x.ord
def RQ (n:Int) (i:Nat):List iu->Option Nat
 | []=>none
 | x::r=>if n=x.no then some i else RQ n (i+1) r
abbrev Vp (n:Int) (A:List iu):Option Nat:=RQ n 0 A
end Go.Md
namespace Go.Md
open Go.Dn
abbrev Vn (d:bU):=d.2.2.2.1
abbrev Vo (d:bU):=d.2.2.2.2.1
variable {o:yR} {l:List bU} {m:List (Int×Option Nat)} {ref:List ah} {pts:List pL} {wt:Int} {A:List iu} {k:Nat} {x:iu}
structure WOk (l:List bU) (x:iu):Prop where
 low: -1<=x.wish
 kind:0<=x.wish->∃ d,l[x.wish.toNat]? =some d/\Vn d<=4
end Go.Md
namespace Go.Md
open Go.Dn
structure Sound (l:List bU) (A:List iu):Prop where
 line:∀ x,x∈A->LOk x/\WOk l x
variable {o:yR} {l:List bU} {ref:List ah} {pts:List pL} {wt:Int} {A:List iu}
end Go.Md
namespace Go.Md
open Go.Dn
variable {o:yR} {l:List bU} {ref:List ah} {pts:List pL} {wt:Int} {A:List iu}
end Go.Md
namespace Go.Md
open Go.Dn
def I1 (n:Int):ah:=((few 3 n).1,((few 3 n).2:Int))
def UZ (d:ah):ah:=((few d.2.toNat d.1).1,((few d.2.toNat d.1).2:Int))
def Vf (x:iu):Fp:=(x.no,x.art,x.unit,I1 x.ord,UZ x.price,x.due,I1 x.shp,I1 x.rcv,I1 x.ret,I1 x.opn)
def VE (x:iu):Prop:=0<=x.price.1/\x.price.1<=1000000000000000/\0<=x.price.2/\x.price.2<=9
end Go.Md
namespace Go.Md
open Go.Dn
structure Good (l:List bU) (A:List iu):Prop where
 sound:Sound l A
 pr:∀ x,x∈A->VE x
def Vv (n:Int) (A:List iu):Option iu:=(Vp n A).bind fun k=>A[k]?
end Go.Md
namespace Go.Md
open Go.Dn
end Go.Md
namespace Go.Md
open Go.Dn
structure Pts (l:List bU) (wt:Int) (n:Nat) (A:List iu) (pts:List pL):Prop where
 pt:∀ (j:Nat) (p:pL),pts[j]? =some p->0<=p.1/\p.1<n/\(∃ d,idx l p.1=some d/\Vo d=wt)/\∀ q,0<j->pts[j - 1]? =some q->q.1<p.1
 last:∀ p,pts.getLast? =some p->∃ x,Vv wt A=some x/\p.2=Vf x
end Go.Md
namespace Go.Md
open Go.Dn
end Go.Md
namespace Go.Md
open Go.Dn
def Txt (d:bU):Prop:=d.2.2.2.2.2.1.length+d.2.2.2.2.2.2.2.1.length<=maxLen
end Go.Md
