/-
  Each function that the laws reach is as its plain model says, a further part. No condition.
-/
import Derived.Test.YtcpmaicaibdafaaGreatDoorYy
set_option linter.all false
set_option maxRecDepth 100000
noncomputable section
namespace Go.Proofs.SeatA
open Go.Dn Go.Md Go.Proofs
def TX:List CK:=[.val .str,.val .str,.val .str,.val tI,.val tI,.val (.slice jw),.val (.slice aO),.val tI,.val tI,.val (.slice aU),.map tI (.slice bH),.map tI aS,.own 37 gH]
def TY:List CK:=[.val .str,.val .str,.val tI,.val tI,.val tI,.val .bool,.own 120 dZ,.own 122 eM,.own 125 iZ]
def TZ:List CK:=[.val .str,.val .str,.val tI,.val tI,.val tI,.val .bool,.rowR 60,.own 122 eM,.own 125 iZ]
def nr:az:=⟨[.val (.slice dZ)],[.row 120 dZ],fun x=>lN x.1⟩
noncomputable def BN:Cx:=⟨tpr,[],[]⟩
theorem A7:aN BN [] none Tryz.f50 nr:=by intro x;kernel_rfl
theorem B3:aq tpr 50:=an Tryz.func50 rfl (by decide)
theorem Ch:aG tpr 50 nr:=aB A7 (.nil _) aC Tryz.func50
def Kz:List (Nat×Ann):=[(14,⟨[(7,.ref 7 0),(8,.ref 8 0),(14,.ref 14 0),(62,.val (.slice bH)),(63,.val tI),(64,.val tI)],[(7,[.val .str,.val .str,.val tI,.val tI,.val tI,.val .bool,.val (.slice dZ),.val (.slice eM),.val (.slice iZ)]),(8,TY),(14,TZ)],[.rowC 60 120 dZ],bg _⟩),
 (200014,⟨[(8,.ref 8 0),(14,.ref 14 0)],[(8,TY),(14,TZ)],[.rowC 60 120 dZ],fun _=>0⟩)]
def zi:az:=⟨[.val bz,.val (.slice aO),.val .str,.val aU],[.val aU,.val tI],fun x=>zF x.1 x.2.1 x.2.2.1 x.2.2.2.1⟩
noncomputable def Nv:Cx:=⟨tpr,[(27,rB),(39,um),(41,gY),(42,kz),(47,ig),(48,fm),(49,jr),(50,nr)],[]⟩
theorem Ma:aN Nv Kz none Tryz.f21 zi:=by intro x;kernel_rfl
theorem NR:aq tpr 21:=an Tryz.func21 rfl (by decide)
theorem N8:aG tpr 21 zi:=aB Ma (.cons Cd BX (.cons Cb BW (.cons l6 lY (.cons q8 qW (.cons nD nC (.cons iD iC (.cons q9 qX (.cons Ch B3 (.nil _))))))))) aC Tryz.func21
def zk:az:=⟨[.val (.slice aO)],[.val tI],fun x=>zM x.1⟩
noncomputable def NA:Cx:=⟨tpr,[],[]⟩
theorem Mg:aN NA [] none Tryz.f24 zk:=by intro x;kernel_rfl
theorem NT:aq tpr 24:=an Tryz.func24 rfl (by decide)
theorem Oa:aG tpr 24 zk:=aB Mg (.nil _) aC Tryz.func24
def G5:List (Nat×Ann):=[(7,⟨[(4,.val tI),(12,.ref 27 0),(36,.val (.slice aU)),(37,.val tI),(38,.val tI)],[(27,TX)],[],bg _⟩),
 (14,⟨[(12,.ref 27 0),(16,.own 57 F9),(53,.val (.slice bH)),(54,.val tI),(55,.val tI)],[(27,[.val .str,.val .str,.val .str,.val tI,.val tI,.val (.slice jw),.val (.slice aO),.val tI,.val tI,.val (.slice aU),.mapR 118549,.mapR 118550,.rowR 118551])],[.rowC 118551 37 gH,.mapC 118549 tI (.slice bH),.mapC 118550 tI aS],bg _⟩),
 (200007,⟨[(4,.val tI),(12,.ref 27 0)],[(27,TX)],[],fun _=>0⟩),
 (200014,⟨[(16,.own 57 F9)],[],[],fun _=>0⟩)]
def xh:az:=⟨[.val bz,.val (.slice aO),.val aA,.val (.slice aU),.val tI],[.row 57 F9,.val tI],fun x=>wF x.1 x.2.1 x.2.2.1 x.2.2.2.1 x.2.2.2.2.1⟩
noncomputable def KI:Cx:=⟨tpr,[(30,nL),(30,pS),(31,jM),(37,gx),(38,jt),(39,um),(40,l9),(41,gY),(42,kz)],[]⟩
theorem JP:aN KI G5 none Tryz.f18 xh:=by intro x;kernel_rfl
theorem K6:aq tpr 18:=an Tryz.func18 rfl (by decide)
theorem Lj:aG tpr 18 xh:=aB JP (.cons yK yH (.cons AU AT (.cons vk vj (.cons jk jg (.cons tQ tM (.cons Cb BW (.cons vK vF (.cons l6 lY (.cons q8 qW (.nil _)))))))))) aC Tryz.func18
def Ay:List (Nat×Ann):=[(300003,⟨[(8,.val .bool)],[],[],fun _=>0⟩)]
def ur:az:=⟨[.val bz,.val (.slice aO),.val .str,.val aU],[.val .bool],fun x=>lD x.1 x.2.1 x.2.2.1 x.2.2.2.1⟩
noncomputable def BK:Cx:=⟨tpr,[(8,AM),(9,Ct),(18,xh),(21,zi),(24,zk)],[]⟩
theorem A4:aN BK Ay none Tryz.f6 ur:=by intro x;kernel_rfl
theorem Cc:aG tpr 6 ur:=aB A4 (.cons PI Py (.cons Q3 QI (.cons Lj K6 (.cons N8 NR (.cons Oa NT (.nil _)))))) aC Tryz.func6
end Go.Proofs.SeatA
end
