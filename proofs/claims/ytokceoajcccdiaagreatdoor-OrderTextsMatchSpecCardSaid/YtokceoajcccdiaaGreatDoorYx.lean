/-
  Each function that the law reaches is as its plain model says, a further part. No condition.
-/
import Derived.Test.YtokceoajcccdiaaGreatDoorYz
set_option maxRecDepth 100000
noncomputable section
namespace Go.Proofs.SeatU
open Go.Dn Go.Md Go.Proofs
def Fu:List CK:=[.val .bool,.val (.slice (.int .u32))]
def Bw:List CK:=[.val .bool,.val .bool,.val .bool,.val .bool,.val .bool,.val .bool]
def Bx:List CK:=[.val tI,.val tI,.val tI,.val tI,.val tI,.val .str,.val tI,.val tI,.val .str,.val tI,.val tI,.val tI,.val tI]
def jv:aq:=⟨[.val .bool,.val (.slice (.int .u32))],[.val cT],fun x=>gp x.1 x.2.1⟩
noncomputable def Jz:Cx:=⟨tpr,[(98,lP)],[]⟩
theorem l6:FB 95 jv:=fbk Jz [] none (by intro x;kernel_rfl) (cz lD (.nil _)) Tryz.func95
def Jq:List (Nat×Ann):=[(100003,⟨[(0,.val tI),(2,.ref 2 0),(3,.val (.int .u64))],[(2,[.val .bool,.own 120 (.int .u32)])],[],fun _=>0⟩)]
def xY:aq:=⟨[.val tI],[.val cT],fun x=>qg x.1⟩
noncomputable def L8:Cx:=⟨tpr,[(95,jv)],[]⟩
theorem D5:FB 68 xY:=fbk L8 Jq none (by intro x;kernel_rfl) (cz l6 (.nil _)) Tryz.func68
def wq:aq:=⟨[.val cT],[.val cT],fun x=>pO x.1⟩
noncomputable def ED:Cx:=⟨tpr,[(95,jv)],[]⟩
theorem EM:FB 69 wq:=fbk ED [] none (by intro x;kernel_rfl) (cz l6 (.nil _)) Tryz.func69
def oV:aq:=⟨[.val (.slice (.int .u32))],[.row 120 (.int .u32)],fun x=>jj x.1⟩
noncomputable def xu:Cx:=⟨tpr,[],[]⟩
theorem xC:FB 96 oV:=fbk xu [] none (by intro x;kernel_rfl) (.nil _) Tryz.func96
def zq:List (Nat×Ann):=[(100002,⟨[(0,.val (.int .u32)),(1,.val (.int .u32)),(2,.val (.int .u32))],[],[],fun _=>0⟩),
 (300001,⟨[(15,.val .bool)],[],[],fun _=>0⟩)]
def uc:aq:=⟨[.val (.int .u32),.val (.int .u32),.val (.int .u32)],[.val (.int .u32),.val (.int .u32)],fun x=>mN x.1 x.2.1 x.2.2.1⟩
noncomputable def BC:Cx:=⟨tpr,[],[]⟩
theorem BS:FB 97 uc:=fbk BC zq none (by intro x;kernel_rfl) (.nil _) Tryz.func97
def vw:List (Nat×Ann):=[(1,⟨[(0,.rowR 10250000),(2,.val tI),(3,.val tI)],[],[.rowC 10250000 5 (.int .u8)],bL _⟩),
 (200001,⟨[],[],[.rowC 10250000 5 (.int .u8)],fun _=>0⟩)]
def oX:aq:=⟨[.mrow 5 (.int .u8)],[],fun x=>gG x.1⟩
noncomputable def xz:Cx:=⟨tpr,[],[]⟩
theorem xE:FB 99 oX:=fbk xz vw none (by intro x;kernel_rfl) (.nil _) Tryz.func99
def A2:List (Nat×Ann):=[(5,⟨[(1,.ref 1 0),(3,.own 5 (.int .u8)),(4,.own 120 (.int .u32))],[(1,Fu)],[],fun x=>20*x.2.1.length+2⟩),
 (8,⟨[(1,.ref 1 0),(3,.own 5 (.int .u8)),(4,.own 120 (.int .u32)),(5,.val (.int .u32)),(6,.val tI)],[(1,Fu)],[],bL _⟩),
 (200005,⟨[(1,.ref 1 0),(3,.own 5 (.int .u8))],[(1,Fu)],[],fun _=>0⟩),
 (200008,⟨[(1,.ref 1 0),(3,.own 5 (.int .u8)),(4,.own 120 (.int .u32)),(5,.val (.int .u32))],[(1,Fu)],[],fun _=>0⟩)]
def uR:aq:=⟨[.val cT],[.val .str],fun x=>oo x.1⟩
noncomputable def DF:Cx:=⟨tpr,[(96,oV),(97,uc),(98,um),(99,oX)],[]⟩
theorem DM:FB 70 uR:=fbk DF A2 none (by intro x;kernel_rfl) (cz xC (cz BS (.cons Cm B4 (cz xE (.nil _))))) Tryz.func70
def uL:aq:=⟨[.val .str,.val tI],[.val .str,.val .str],fun x=>nP x.1 x.2.1⟩
noncomputable def Dz:Cx:=⟨tpr,[(81,ko)],[]⟩
theorem DH:FB 67 uL:=fbk Dz [] none (by intro x;kernel_rfl) (.cons uJ uH (.nil _)) Tryz.func67
def yY:aq:=⟨[.val bA],[.val .str],fun x=>oB x.1⟩
noncomputable def Hr:Cx:=⟨tpr,[],[]⟩
theorem HM:FB 71 yY:=fbk Hr [] none (by intro x;kernel_rfl) (.nil _) Tryz.func71
def yV:aq:=⟨[.val bA],[.val .str,.val tI],fun x=>sR x.1⟩
noncomputable def Ho:Cx:=⟨tpr,[(66,gR),(67,uL),(68,xY),(69,wq),(70,uR),(71,yY)],[]⟩
theorem HF:FB 50 yV:=fbk Ho [] none (by intro x;kernel_rfl) (cz jW (cz DH (cz D5 (cz EM (cz DM (cz HM (.nil _))))))) Tryz.func50
def yW:aq:=⟨[.val bA],[.val .str],fun x=>oA x.1⟩
noncomputable def Hp:Cx:=⟨tpr,[(50,yV)],[]⟩
theorem HH:FB 26 yW:=fbk Hp [] none (by intro x;kernel_rfl) (cz HF (.nil _)) Tryz.func26
def Ej:aq:=⟨[.val (.slice .str)],[.val .str],fun x=>nh x.1⟩
noncomputable def LY:Cx:=⟨tpr,[(15,rG)],[]⟩
theorem Mb:FB 27 Ej:=fbk LY [] none (by intro x;kernel_rfl) (.cons w4 wT (.nil _)) Tryz.func27
def AX:List (Nat×Ann):=[(100004,⟨[(1,.ref 1 0),(3,.own 9 .str),(4,.ref 4 0)],[(1,Bx),(4,Bw)],[],fun _=>0⟩),
 (100006,⟨[(1,.ref 1 0),(3,.own 9 .str),(4,.ref 4 0)],[(1,Bx),(4,Bw)],[],fun _=>0⟩),
 (100008,⟨[(1,.ref 1 0),(3,.own 9 .str),(4,.ref 4 0)],[(1,Bx),(4,Bw)],[],fun _=>0⟩),
 (100010,⟨[(1,.ref 1 0),(3,.own 9 .str),(4,.ref 4 0)],[(1,Bx),(4,Bw)],[],fun _=>0⟩),
 (100012,⟨[(1,.ref 1 0),(3,.own 9 .str),(4,.ref 4 0)],[(1,Bx),(4,Bw)],[],fun _=>0⟩)]
def uM:aq:=⟨[.val aH],[.val .str],fun x=>gI x.1⟩
noncomputable def DA:Cx:=⟨tpr,[(22,jP),(23,qb),(24,nB),(25,mU),(26,yW),(27,Ej)],[]⟩
theorem BO:Ns DA AX none Tryz.f11 uM:=by intro x;kernel_rfl
theorem DN:eC tpr 11 uM:=FM BO (.cons qX qN (cz vI (cz tL (cz qK (cz HH (cz Mb (.nil _))))))) Pw Tryz.func11
end Go.Proofs.SeatU
end
