/-
  Each function that the law reaches is as its plain model says, a further part. No condition.
-/
import Derived.Test.YtokceoajcccdiaaGreatDoorYi
set_option maxRecDepth 100000
noncomputable section
namespace Go.Proofs.SeatU
open Go.Dn Go.Md Go.Proofs
def OW:List CK:=[.val .bool,.val .bool,.val .bool,.val .bool,.val .bool,.val .bool]
def OX:List CK:=[.val tI,.val tI,.val tI,.val tI,.val tI,.val .str,.val tI,.val tI,.val .str,.val tI,.val tI,.val tI,.val tI]
def wh:aq:=⟨[.val tI],[.val .bool],fun x=>qu x.1⟩
noncomputable def Kv:Cx:=⟨tpr,[(45,kR)],[]⟩
theorem BR:FB 44 wh:=fbk Kv [] none (by intro x;kernel_rfl) (cz nU (.nil _)) Tryz.func44
def uf:aq:=⟨[.val tI],[.val .bool],fun x=>mQ x.1⟩
noncomputable def BE:Cx:=⟨tpr,[],[]⟩
theorem BU:FB 46 uf:=fbk BE [] none (by intro x;kernel_rfl) (.nil _) Tryz.func46
def Ev:List (Nat×Ann):=[(3,⟨[(3,.val tI),(4,.val tI),(5,.val tI)],[],[],bL _⟩),
 (200003,⟨[(3,.val tI)],[],[],fun _=>0⟩)]
def yZ:aq:=⟨[.val tI],[.val tI],fun x=>xL x.1⟩
noncomputable def Ht:Cx:=⟨tpr,[],[]⟩
theorem HN:FB 118 yZ:=fbk Ht Ev none (by intro x;kernel_rfl) (.nil _) Tryz.func118
def rB:aq:=⟨[.val bA,.val tI,.val tI],[.val .bool],fun x=>kL x.1 x.2.1 x.2.2.1⟩
noncomputable def FC:Cx:=⟨tpr,[(118,yZ)],[]⟩
theorem wR:FB 89 rB:=fbk FC [] none (by intro x;kernel_rfl) (cz HN (.nil _)) Tryz.func89
def oT:aq:=⟨[.val bA,.val .bool],[.val tI],fun x=>jh x.1 x.2.1⟩
noncomputable def xp:Cx:=⟨tpr,[(66,gR),(89,rB)],[]⟩
theorem xA:FB 62 oT:=fbk xp [] none (by intro x;kernel_rfl) (cz jW (cz wR (.nil _))) Tryz.func62
def rU:aq:=⟨[.val bA],[.val tI],fun x=>lH x.1⟩
noncomputable def A4:Cx:=⟨tpr,[(66,gR),(89,rB)],[]⟩
theorem A7:FB 63 rU:=fbk A4 [] none (by intro x;kernel_rfl) (cz jW (cz wR (.nil _))) Tryz.func63
def AN:aq:=⟨[.val .str],[.val .bool],fun x=>gK x.1⟩
noncomputable def Jt:Cx:=⟨tpr,[(90,rH)],[]⟩
theorem JB:FB 64 AN:=fbk Jt [] none (by intro x;kernel_rfl) (.cons Ge F1 (.nil _)) Tryz.func64
def zu:List (Nat×Ann):=[(100003,⟨[(1,.ref 1 0),(3,.ref 3 0)],[(1,OX),(3,OW)],[],fun _=>0⟩),
 (100007,⟨[(1,.ref 1 0),(3,.ref 3 0)],[(1,OX),(3,OW)],[],fun _=>0⟩),
 (300011,⟨[(30,.val .bool)],[],[],fun _=>0⟩),
 (300013,⟨[(39,.val .bool)],[],[],fun _=>0⟩),
 (300015,⟨[(58,.val .bool)],[],[],fun _=>0⟩),
 (300017,⟨[(66,.val .bool)],[],[],fun _=>0⟩)]
def ug:aq:=⟨[.val aH],[.val tI],fun x=>mR x.1⟩
noncomputable def BG:Cx:=⟨tpr,[(25,mU),(44,wh),(45,kR),(62,oT),(63,rU),(64,AN)],[]⟩
theorem BV:FB 47 ug:=fbk BG zu none (by intro x;kernel_rfl) (cz qK (cz BR (cz nU (cz xA (cz A7 (cz JB (.nil _))))))) Tryz.func47
def ud:aq:=⟨[.val aH],[.val tI],fun x=>mP x.1⟩
noncomputable def BD:Cx:=⟨tpr,[(44,wh),(45,kR),(46,uf),(47,ug)],[]⟩
theorem BT:FB 19 ud:=fbk BD [] none (by intro x;kernel_rfl) (cz BR (cz nU (cz BU (cz BV (.nil _))))) Tryz.func19
def wJ:List (Nat×Ann):=[(2,⟨[(22,.rowR 22),(23,.val tI),(24,.val tI)],[],[.rowC 22 3 tI],bL _⟩),
 (200002,⟨[],[],[],fun _=>0⟩)]
def qA:aq:=⟨[.val aH,.val aH],[.val tI],fun x=>gV x.1 x.2.1⟩
noncomputable def yt:Cx:=⟨tpr,[],[]⟩
theorem yB:FB 20 qA:=fbk yt wJ none (by intro x;kernel_rfl) (.nil _) Tryz.func20
def yd:List (Nat×Ann):=[(5,⟨[(0,.val (.slice aH)),(3,.ref 3 0),(11,.val (.slice aH)),(12,.val tI),(13,.val tI)],[(3,[.val tI,.val tI,.val tI])],[],bL _⟩),
 (200005,⟨[],[],[],fun _=>0⟩),
 (300010,⟨[(34,.val .bool)],[],[],fun _=>0⟩)]
def mH:aq:=⟨[.val (.slice aH)],[.val tI],fun x=>eH x.1⟩
noncomputable def A3:Cx:=⟨tpr,[(19,ud),(20,qA)],[]⟩
theorem mF:FB 9 mH:=fbk A3 yd none (by intro x;kernel_rfl) (cz BT (cz yB (.nil _))) Tryz.func9
theorem A9:eC tpr 9 mH:=mF.1
theorem OC:dW tpr 9:=mF.2
def Fh:List (Nat×Ann):=[(6,⟨[(5,.val (.slice .str)),(6,.val .bool),(7,.own 33 aH),(21,.val (.slice .str)),(22,.val tI),(23,.val tI)],[],[],bL _⟩),
 (200006,⟨[(7,.own 33 aH)],[],[],fun _=>0⟩),
 (300009,⟨[(45,.val .bool)],[],[],fun _=>0⟩)]
def uD:aq:=⟨[.val .str],[.row 33 aH,.val tI,.val tI],fun x=>qY x.1⟩
noncomputable def Ju:Cx:=⟨tpr,[(9,mH),(17,CG),(18,uN)],[]⟩
theorem AF:FB 7 uD:=fbk Ju Fh none (by intro x;kernel_rfl) (cz mF (cz KN (cz DI (.nil _)))) Tryz.func7
def Jm:List (Nat×Ann):=[(300002,⟨[(0,.val .bool)],[],[],fun _=>0⟩)]
def Ek:aq:=⟨[],[.val .bool],fun _=>EX⟩
noncomputable def LZ:Cx:=⟨tpr,[(7,uD)],[]⟩
theorem Mc:FB 6 Ek:=fbk LZ Jm none (by intro x;kernel_rfl) (cz AF (.nil _)) Tryz.func6
def uy:List (Nat×Ann):=[(4,⟨[(0,.val (.slice aH)),(1,.val (.slice aH)),(12,.val tI),(13,.val tI)],[],[],bL _⟩),
 (200004,⟨[],[],[],fun _=>0⟩)]
def nC:aq:=⟨[.val (.slice aH),.val (.slice aH)],[.val .bool],fun x=>ij x.1 x.2.1⟩
noncomputable def vB:Cx:=⟨tpr,[],[]⟩
theorem vK:FB 8 nC:=fbk vB uy none (by intro x;kernel_rfl) (.nil _) Tryz.func8
end Go.Proofs.SeatU
end
