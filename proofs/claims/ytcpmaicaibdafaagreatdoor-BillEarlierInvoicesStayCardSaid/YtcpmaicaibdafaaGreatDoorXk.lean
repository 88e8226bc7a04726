/-
  Plain facts: the book of the reference; the plain law is true of all data. No condition.
-/
import Derived.Test.YtcpmaicaibdafaaGreatDoorXu
import Derived.Test.YtcpmaicaibdafaaGreatDoorXx
import Derived.Test.YtcpmaicaibdafaaGreatDoorXt
import Derived.Test.YtcpmaicaibdafaaGreatDoorXq
import Derived.Test.YtcpmaicaibdafaaGreatDoorXr
set_option linter.all false
set_option linter.all false
namespace Go.Md
open Go.Dn
structure YS (l:List aa) (P:Int→List aJ) (x:ak) (y:fJ):Prop where
 st:y.1=mK x
 wish:y.2.1=x.wish
 off0:x.ono=0→y.2.2.1= -1
 off1:x.ono≠0→∃ (j:Nat) (d:aa),y.2.2.1=(j:Int)∧l[j]? =some d∧dNo d=x.ono∧bH (dQ d)=x.oq∧qX d=x.ount∧bN d=7
 ev:y.2.2.2=P x.no
structure YR (l:List aa) (P:Int→List aJ) (A:List ak) (L:List fJ):Prop where
 len:L.length=(mq A).length
 rel:∀ (k:Nat) x y,(mq A)[k]? =some x→L[k]? =some y→YS l P x y
theorem YR.get {l:List aa} {P:Int→List aJ} {A:List ak} {L:List fJ} (h:YR l P A L) {k:Nat} {x:ak} (hx:(mq A)[k]? =some x):∃ y,L[k]? =some y∧YS l P x y:=by
 have hlt:=(aa2.1 hx).1
 have:k<L.length:=by rw[h.len];exact hlt
 exact⟨_,aa0 this,h.rel k x _ hx (aa0 this)⟩
variable {o:ai} {l:List aa} {A:List ak} {L:List fJ} {ref:List ah} {P:Int→List aJ}
end Go.Md
set_option linter.all false
namespace Go.Md
open Go.Dn
theorem bs {α β:Type} {e:Option α} {f:α→Option β} {r:α} {z:Option β} (h:e=some r) (h2:f r=z):Option.bind e f=z:=by rw[h];exact h2
end Go.Md
set_option linter.all false
namespace Go.Md
open Go.Dn
variable {o:ai} {l:List aa} {A:List ak} {L:List fJ} {ref:List ah} {P:Int→List aJ}
end Go.Md
set_option linter.all false
namespace Go.Md
open Go.Dn
variable {o:ai} {l:List aa} {A:List ak} {L:List fJ} {ref:List ah} {P:Int→List aJ}
end Go.Md
set_option linter.all false
namespace Go.Md
open Go.Dn
variable {o:ai} {l:List aa} {A:List ak} {L:List fJ} {ref:List ah} {P:Int→List aJ}
end Go.Md
set_option linter.all false
namespace Go.Md
open Go.Dn
end Go.Md
set_option linter.all false
namespace Go.Md
open Go.Dn
end Go.Md
set_option linter.all false
namespace Go.Md
open Go.Dn
end Go.Md
set_option linter.all false
namespace Go.Md
open Go.Dn
end Go.Md
set_option linter.all false
namespace Go.Md
open Go.Dn
end Go.Md
set_option linter.all false
namespace Go.Md
open Go.Dn
end Go.Md
set_option linter.all false
namespace Go.Md
open Go.Dn
variable {l:List aa} {A:List ak}
end Go.Md
