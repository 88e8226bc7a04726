/-
  Plain facts: the book of the reference. No condition.
-/
import Derived.Test.YtcpmaicaibdafaaGreatDoorYu
import Derived.Test.YtcpmaicaibdafaaGreatDoorYx
import Derived.Test.YtcpmaicaibdafaaGreatDoorYt
import Derived.Test.YtcpmaicaibdafaaGreatDoorYq
import Derived.Test.YtcpmaicaibdafaaGreatDoorYr
set_option linter.all false
set_option linter.all false
namespace Go.Md
open Go.Dn
structure WB (l:List aa) (P:Int→List aH) (x:ak) (y:ef):Prop where
 st:y.1=jv x
 wish:y.2.1=x.wish
 off0:x.ono=0→y.2.2.1= -1
 off1:x.ono≠0→∃ (j:Nat) (d:aa),y.2.2.1=(j:Int)∧l[j]? =some d∧dNo d=x.ono∧bE (dQ d)=x.oq∧ot d=x.ount∧bJ d=7
 ev:y.2.2.2=P x.no
structure Wz (l:List aa) (P:Int→List aH) (A:List ak) (L:List ef):Prop where
 len:L.length=(iB A).length
 rel:∀ (k:Nat) x y,(iB A)[k]? =some x→L[k]? =some y→WB l P x y
theorem Wz.get {l:List aa} {P:Int→List aH} {A:List ak} {L:List ef} (h:Wz l P A L) {k:Nat} {x:ak} (hx:(iB A)[k]? =some x):∃ y,L[k]? =some y∧WB l P x y:=by
 have hlt:=(YL.1 hx).1
 have:k<L.length:=by rw[h.len];exact hlt
 exact⟨_,YJ this,h.rel k x _ hx (YJ this)⟩
variable {o:ai} {l:List aa} {A:List ak} {L:List ef} {ref:List ah} {P:Int→List aH}
end Go.Md
set_option linter.all false
namespace Go.Md
open Go.Dn
theorem bs {α β:Type} {e:Option α} {f:α→Option β} {r:α} {z:Option β} (h:e=some r) (h2:f r=z):Option.bind e f=z:=by rw[h];exact h2
end Go.Md
set_option linter.all false
namespace Go.Md
open Go.Dn
variable {o:ai} {l:List aa} {A:List ak} {L:List ef} {ref:List ah} {P:Int→List aH}
end Go.Md
set_option linter.all false
namespace Go.Md
open Go.Dn
variable {o:ai} {l:List aa} {A:List ak} {L:List ef} {ref:List ah} {P:Int→List aH}
end Go.Md
set_option linter.all false
namespace Go.Md
open Go.Dn
variable {o:ai} {l:List aa} {A:List ak} {L:List ef} {ref:List ah} {P:Int→List aH}
end Go.Md
set_option linter.all false
namespace Go.Md
open Go.Dn
end Go.Md
set_option linter.all false
namespace Go.Md
open Go.Dn
end Go.Md
set_option linter.all false
namespace Go.Md
open Go.Dn
end Go.Md
set_option linter.all false
namespace Go.Md
open Go.Dn
end Go.Md
set_option linter.all false
namespace Go.Md
open Go.Dn
end Go.Md
set_option linter.all false
namespace Go.Md
open Go.Dn
end Go.Md
set_option linter.all false
namespace Go.Md
open Go.Dn
variable {l:List aa} {A:List ak}
end Go.Md
