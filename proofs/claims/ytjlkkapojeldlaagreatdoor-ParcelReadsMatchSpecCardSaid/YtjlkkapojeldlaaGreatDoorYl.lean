/-
  The law itself is as its plain model says. No condition.
-/
import Derived.Test.YtjlkkapojeldlaaGreatDoorYH
import Derived.Test.YtjlkkapojeldlaaGreatDoorYj
set_option maxRecDepth 100000
namespace Go.Proofs.SeatU
open Go.Dn Go.Md Go.Proofs
def ko:List (Nat×Ann):=[(300003,⟨[(2,.val .bool)],[],[],fun _=>0⟩)]
noncomputable def eo:ax:=⟨[.val .str],[.val .bool],fun x=>fJ x.1⟩
noncomputable def lp:Cx:=⟨Tryz.prog,[(5,zL),(6,EF),(7,EG),(8,C8)],[]⟩
theorem sS:∀ x,Cf lp ko none Tryz.f3 eo x=eo.m x:=by intro x;kernel_rfl
theorem uM:bO Tryz.prog 3 eo:=Gv (X:=lp) (.cons IG Iu (.cons M7 MY (cz MN (cz Lm (.nil _))))) (by kernel_rfl) eo ko none (by kernel_rfl) (fun x y h=>(sS x).trans h)
end Go.Proofs.SeatU
