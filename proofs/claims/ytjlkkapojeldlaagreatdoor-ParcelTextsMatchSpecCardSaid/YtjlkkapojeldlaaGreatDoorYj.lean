/-
  Each function that the law reaches is as its plain model says, a further part. No condition.
-/
import Derived.Test.YtjlkkapojeldlaaGreatDoorYi
set_option maxRecDepth 100000
noncomputable section
namespace Go.Proofs.SeatU
open Go.Dn Go.Md Go.Proofs
def AX:List (Nat×Ann):=[(4,⟨[(1,.val (.slice az)),(13,.val (.slice az)),(14,.val tI),(15,.val tI)],[],[],aW _⟩),
 (200004,⟨[],[],[],fun _=>0⟩)]
def vL:ak:=⟨[.val (.slice az),.val (.slice az)],[.val .bool],fun x=>nI x.1 x.2.1⟩
noncomputable def Dc:Cx:=⟨tpr,[(49,lW)],[]⟩
theorem Dm:FB 17 vL:=fbk Dc AX none (by intro x;kernel_rfl) (cz vp (.nil _)) Tryz.func17
def LB:List (Nat×Ann):=[(300001,⟨[(4,.val .bool)],[],[],fun _=>0⟩)]
def FT:ak:=⟨[.val cH,.val cH],[.val .bool],fun x=>BO x.1 x.2.1⟩
noncomputable def Ox:Cx:=⟨tpr,[(17,vL)],[]⟩
theorem OH:FB 7 FT:=fbk Ox LB none (by intro x;kernel_rfl) (cz Dm (.nil _)) Tryz.func7
def F9:List (Nat×Ann):=[(5,⟨[(4,.val tI),(15,.val tI),(16,.val tI)],[],[],aW _⟩),
 (200005,⟨[(4,.val tI)],[],[],fun _=>0⟩)]
def AD:ak:=⟨[.val .str],[.val tI,.val .bool],fun x=>FJ x.1⟩
noncomputable def Jt:Cx:=⟨tpr,[(61,eC)],[]⟩
theorem JK:FB 50 AD:=fbk Jt F9 none (by intro x;kernel_rfl) (.cons jM nB (.nil _)) Tryz.func50
def zM:List (Nat×Ann):=[(16,⟨[(0,.val tI),(1,.val .str),(49,.val tI)],[],[],aW _⟩),
 (200016,⟨[],[],[],fun _=>0⟩)]
def tF:ak:=⟨[.val tI,.val .str],[.val .str,.val tI],fun x=>w9 x.1 x.2.1⟩
noncomputable def Cu:Cx:=⟨tpr,[(21,gU),(85,rj),(86,xU),(87,s5),(88,xV),(89,ri),(90,om)],[]⟩
theorem CA:FB 52 tF:=fbk Cu zM none (by intro x;kernel_rfl) (.cons jN nC (cz xp (.cons GI Gz (.cons BE Bo (.cons GJ GA (.cons xC xq (cz vl (.nil _)))))))) Tryz.func52
def wA:ak:=⟨[.val .str,.val tI],[.val .str,.val tI],fun x=>An x.1 x.2.1⟩
noncomputable def E5:Cx:=⟨tpr,[(21,gU),(50,AD),(51,lF),(52,tF),(53,ij)],[]⟩
theorem Fe:FB 18 wA:=fbk E5 [] none (by intro x;kernel_rfl) (.cons jN nC (cz JK (cz oN (cz CA (.cons pH pG (.nil _)))))) Tryz.func18
def Ea:ak:=⟨[],[.val .bool],fun _=>DD⟩
noncomputable def MS:Cx:=⟨tpr,[(18,wA)],[]⟩
theorem Nc:FB 8 Ea:=fbk MS [] none (by intro x;kernel_rfl) (cz Fe (.nil _)) Tryz.func8
def Lm:ak:=⟨[.val .str],[.val .str],fun x=>DU x.1⟩
noncomputable def RD:Cx:=⟨tpr,[],[]⟩
theorem RN:FB 26 Lm:=fbk RD [] none (by intro x;kernel_rfl) (.nil _) Tryz.func26
def ME:List (Nat×Ann):=[(100006,⟨[(1,.ref 1 0),(4,.val .str)],[(1,[.val tI,.val tI])],[],fun _=>0⟩)]
def IV:ak:=⟨[.val bM],[.val .str,.val tI],fun x=>EV x.1⟩
noncomputable def Ql:Cx:=⟨tpr,[(21,gU),(53,ij),(79,ot)],[]⟩
theorem Qs:FB 58 IV:=fbk Ql ME none (by intro x;kernel_rfl) (.cons jN nC (.cons pH pG (cz vo (.nil _)))) Tryz.func58
def AE:ak:=⟨[.val bM],[.val .str],fun x=>qh x.1⟩
noncomputable def Ju:Cx:=⟨tpr,[(58,IV)],[]⟩
theorem JL:FB 27 AE:=fbk Ju [] none (by intro x;kernel_rfl) (cz Qs (.nil _)) Tryz.func27
def LC:List (Nat×Ann):=[(7,⟨[(5,.val .str),(31,.val (.slice az)),(32,.val tI),(33,.val tI)],[],[],aW _⟩),
 (11,⟨[(5,.val .str),(31,.val (.slice az)),(32,.val tI),(33,.val tI),(54,.val (.slice bh)),(55,.val tI),(56,.val tI)],[],[],aW _⟩),
 (200007,⟨[(5,.val .str)],[],[],fun _=>0⟩),
 (200011,⟨[(5,.val .str),(31,.val (.slice az)),(32,.val tI),(33,.val tI)],[],[],fun _=>0⟩)]
def FU:ak:=⟨[.val cH],[.val .str,.val tI],fun x=>BP x.1⟩
noncomputable def Oy:Cx:=⟨tpr,[(16,vK),(21,gU),(26,Lm),(27,AE)],[]⟩
theorem OI:FB 10 FU:=fbk Oy LC none (by intro x;kernel_rfl) (cz Dl (.cons jN nC (cz RN (cz JL (.nil _))))) Tryz.func10
end Go.Proofs.SeatU
end
