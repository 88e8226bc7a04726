/-
  The plain models of the functions that the law reaches, fourth part; strings.Join by contract. No condition.
-/
import Derived.Test.YtjlkkapojeldlabGreatDoorYd
import Derived.Shelf.Strings.OnBuilder
import Derived.Test.YtjlkkapojeldlabGreatDoorYo
import Derived.Test.YtjlkkapojeldlabGreatDoorYp
import Derived.Lib.ItoaNum
import Derived.Lib.Repeat
namespace Go.Md
open Go.Dn
end Go.Md
namespace Go.Dn
open Go Go.Md Go.Proofs Go.Shelf
theorem CI {G:Gh}:∀ {l:List Bys} {vs:List Value},bX (az G .str) l vs->vs=l.map fun s=>Value.string (bs s)
 | [],vs,h=>h
 | x::r,vs,h=>by
  obtain⟨a,b,e,h1,h2⟩:=h
  have h1:a=[.string (bs x)]:=h1
  rw[e,h1,CI h2]
  rfl
end Go.Dn
set_option linter.all false
namespace Go.Md
open Go.Dn
noncomputable section
abbrev Ly (s c:Bys):Option (List Bys×Unit):=strings_Split s c
end
end Go.Md
