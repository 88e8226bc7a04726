/-
  The law itself is as its plain model says. No condition.
-/
import Derived.Test.YtjlkkapojeldlabGreatDoorYH
set_option maxRecDepth 100000
namespace Go.Proofs.SeatU
open Go.Dn Go.Md Go.Proofs
def nZ:List (Nat×Ann):=[(300003,⟨[(2,.val .bool)],[],[],fun _=>0⟩)]
noncomputable def iy:ax:=⟨[.val .str],[.val .bool],fun x=>jy x.1⟩
noncomputable def pR:Cx:=⟨Tryz.prog,[(5,GK),(6,IK),(7,IL),(8,GN)],[]⟩
theorem yN:∀ x,BE pR nZ none Tryz.f3 iy x=iy.m x:=by intro x;kernel_rfl
theorem zz:cZ Tryz.prog 3 iy:=FU (X:=pR) (.cons P8 PG (.cons Rs Rk (cz Q8 (cz Px (.nil _))))) (by kernel_rfl) iy nZ none (by kernel_rfl) (fun x y h=>(yN x).trans h)
end Go.Proofs.SeatU
