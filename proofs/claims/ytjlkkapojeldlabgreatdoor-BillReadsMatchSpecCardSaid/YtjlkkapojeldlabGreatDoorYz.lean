/-
  whole.trimmed at a row of its own, by a walk. No condition.
-/
import Derived.Test.YtjlkkapojeldlabGreatDoorYw
import Derived.Deep.LoopGhost
import Derived.Test.YtjlkkapojeldlabGreatDoorYp
set_option maxRecDepth 100000
namespace Go.Proofs.SeatU
open Go.Dn Go.Md Go.Proofs Go.RowKit Go.Shelf Go.Lib
end Go.Proofs.SeatU
