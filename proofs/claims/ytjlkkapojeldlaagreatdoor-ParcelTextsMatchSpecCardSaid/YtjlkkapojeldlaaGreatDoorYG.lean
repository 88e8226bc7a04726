/-
  readLine of the reference by a walk, second part. No condition.
-/
import Derived.Test.YtjlkkapojeldlaaGreatDoorYF
import Derived.Test.YtjlkkapojeldlaaGreatDoorYC
set_option maxRecDepth 100000
namespace Go.Proofs.SeatU
open Go.Dn Go.Md Go.Proofs Go.RowKit Go.Shelf Go.Lib
attribute [local go_sem ↓] Go.wp_at_zero Go.wp_at_succ
end Go.Proofs.SeatU
set_option maxRecDepth 100000
namespace Go.Proofs.SeatU
open Go.Dn Go.Md Go.Proofs Go.RowKit Go.Shelf Go.Lib
attribute [local go_sem ↓] Go.wp_at_zero Go.wp_at_succ
end Go.Proofs.SeatU
