/-
  The law itself is as its plain model says. No condition.
-/
import Derived.Test.YtjlkkapojeldlabGreatDoorYH
set_option maxRecDepth 100000
namespace Go.Proofs.SeatU
open Go.Dn Go.Md Go.Proofs
def oe:List (Nat×Ann):=[(300008,⟨[(2,.val .bool)],[],[],fun _=>0⟩)]
noncomputable def ij:an:=⟨[.val b7],[.val .bool],fun x=>jm x.1⟩
noncomputable def qb:Cx:=⟨Tryz.prog,[(5,I9),(7,KW),(8,Jd),(9,Ja),(10,KX)],[]⟩
theorem Ae:∀ x,Dk qb oe none Tryz.f4 ij x=ij.m x:=by intro x;kernel_rfl
theorem AV:cM Tryz.prog 4 ij:=Ir (X:=qb) (.cons Tk SM (cz Uq (cz SA (.cons Tl SN (cz Ur (.nil _)))))) (by kernel_rfl) ij oe none (by kernel_rfl) (fun x y h=>(Ae x).trans h)
end Go.Proofs.SeatU
