/-
  The law itself is as its plain model says. No condition.
-/
import Derived.Test.YtokceoajcccdiaaGreatDoorYk
set_option maxRecDepth 100000
namespace Go.Proofs.SeatU
open Go.Dn Go.Md Go.Proofs
def kX:List (Nat×Ann):=[(300008,⟨[(2,.val .bool)],[],[],fun _=>0⟩)]
noncomputable def fO:aq:=⟨[.val (.slice aH)],[.val .bool],fun x=>gL x.1⟩
noncomputable def mK:Cx:=⟨Tryz.prog,[(4,AP),(5,GJ),(6,Ek),(7,uD),(8,nC)],[]⟩
theorem uz:∀ x,BN mK kX none Tryz.f3 fO x=fO.m x:=by intro x;kernel_rfl
theorem uW:eC Tryz.prog 3 fO:=F0 (X:=mK) (.cons JL JF (cz NP (cz Mc (cz AF (cz vK (.nil _)))))) (by kernel_rfl) fO kX none (by kernel_rfl) (fun x y h=>(uz x).trans h)
end Go.Proofs.SeatU
