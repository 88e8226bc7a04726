/-
  The plain models of the functions that the law reaches, fourth part; strings.Join by contract. No condition.
-/
import Derived.Test.YtjlkkapojeldlaaGreatDoorYd
import Derived.Shelf.Strings.OnBuilder
import Derived.Test.YtjlkkapojeldlaaGreatDoorYo
import Derived.Test.YtjlkkapojeldlaaGreatDoorYp
import Derived.Lib.ItoaNum
import Derived.Lib.Repeat
namespace Go.Md
open Go.Dn
end Go.Md
namespace Go.Dn
open Go Go.Md Go.Proofs Go.Shelf
theorem zC {G:Gh}:∀ {l:List (List UInt8)} {vs:List Value},bE (ay G .str) l vs->vs=l.map fun s=>Value.string (bs s)
 | [],vs,h=>h
 | x::r,vs,h=>by
  obtain⟨a,b,e,h1,h2⟩:=h
  have h1:a=[.string (bs x)]:=h1
  rw[e,h1,zC h2]
  rfl
end Go.Dn
set_option linter.all false
namespace Go.Md
open Go.Dn
noncomputable section
abbrev Hs (s c:List UInt8):Option (List (List UInt8)×Unit):=strings_Split s c
end
end Go.Md
