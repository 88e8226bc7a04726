/-
  Each function that the law reaches is as its plain model says, a further part. No condition.
-/
import Derived.Test.YtjlkkapojeldlaaGreatDoorYz
set_option maxRecDepth 100000
noncomputable section
namespace Go.Proofs.SeatU
open Go.Dn Go.Md Go.Proofs
def C2:List CK:=[.val .bool,.own 148 (.int .u32)]
def mG:List CK:=[.val .bool,.val (.slice (.int .u32))]
def jA:ak:=⟨[.val .bool,.val (.slice (.int .u32))],[.val cM],fun x=>fP x.1 x.2.1⟩
noncomputable def LS:Cx:=⟨tpr,[(154,mw)],[]⟩
theorem mJ:FB 151 jA:=fbk LS [] none (by intro x;kernel_rfl) (cz l9 (.nil _)) Tryz.func151
def LG:List (Nat×Ann):=[(100003,⟨[(0,.val tI),(2,.ref 2 0),(3,.val (.int .u64))],[(2,C2)],[],fun _=>0⟩)]
def zD:ak:=⟨[.val tI],[.val cM],fun x=>ru x.1⟩
noncomputable def OF:Cx:=⟨tpr,[(151,jA)],[]⟩
theorem Fy:FB 98 zD:=fbk OF LG none (by intro x;kernel_rfl) (cz mJ (.nil _)) Tryz.func98
def AY:List (Nat×Ann):=[(3,⟨[(2,.ref 2 0),(3,.ref 3 0),(4,.ref 4 0),(5,.rowR 18),(20,.val (.slice (.int .u32))),(21,.val tI),(22,.val tI)],[(2,mG),(3,mG),(4,C2)],[.rowC 18 148 (.int .u32)],aW _⟩),
 (7,⟨[(2,.ref 2 0),(3,.ref 3 0),(4,.ref 4 0),(5,.rowR 18),(6,.val tI),(7,.val (.int .u32)),(8,.val (.int .u64)),(20,.val (.slice (.int .u32))),(21,.val tI),(22,.val tI),(28,.val (.slice (.int .u32))),(29,.val tI),(30,.val tI)],[(2,mG),(3,mG),(4,C2)],[.rowC 18 148 (.int .u32)],aW _⟩),
 (200003,⟨[(2,.ref 2 0),(3,.ref 3 0),(4,.ref 4 0),(5,.rowR 18)],[(2,mG),(3,mG),(4,C2)],[.rowC 18 148 (.int .u32)],fun _=>0⟩),
 (200007,⟨[(2,.ref 2 0),(3,.ref 3 0),(4,.ref 4 0),(5,.rowR 18),(6,.val tI),(8,.val (.int .u64)),(20,.val (.slice (.int .u32))),(21,.val tI),(22,.val tI)],[(2,mG),(3,mG),(4,C2)],[.rowC 18 148 (.int .u32)],fun _=>0⟩)]
def vN:ak:=⟨[.val cM,.val cM],[.val cM],fun x=>kr x.1 x.2.1⟩
noncomputable def Df:Cx:=⟨tpr,[(151,jA)],[]⟩
theorem Dr:FB 110 vN:=fbk Df AY none (by intro x;kernel_rfl) (cz mJ (.nil _)) Tryz.func110
def Gc:List (Nat×Ann):=[(6,⟨[(1,.val (.slice (.int .u32))),(5,.own 148 (.int .u32)),(6,.val (.int .u64)),(20,.val (.slice (.int .u32))),(21,.val tI),(22,.val tI)],[],[],aW _⟩),
 (100002,⟨[(0,.val (.slice (.int .u32))),(1,.val (.slice (.int .u32)))],[],[],fun _=>0⟩),
 (100010,⟨[(1,.val (.slice (.int .u32))),(5,.own 148 (.int .u32)),(6,.val (.int .u64)),(20,.val (.slice (.int .u32))),(21,.val tI),(22,.val tI)],[],[],fun _=>0⟩),
 (200006,⟨[(5,.own 148 (.int .u32)),(6,.val (.int .u64))],[],[],fun _=>0⟩)]
def AL:ak:=⟨[.val (.slice (.int .u32)),.val (.slice (.int .u32))],[.val (.slice (.int .u32))],fun x=>zG x.1 x.2.1⟩
noncomputable def JB:Cx:=⟨tpr,[],[]⟩
theorem JR:FB 164 AL:=fbk JB Gc none (by intro x;kernel_rfl) (.nil _) Tryz.func164
def CR:List (Nat×Ann):=[(4,⟨[(0,.val (.slice (.int .u32))),(1,.val (.slice (.int .u32))),(5,.val tI)],[],[],aW _⟩),
 (200004,⟨[],[],[],fun _=>0⟩)]
def x5:ak:=⟨[.val (.slice (.int .u32)),.val (.slice (.int .u32))],[.val tI],fun x=>qQ x.1 x.2.1⟩
noncomputable def Gl:Cx:=⟨tpr,[],[]⟩
theorem Gv:FB 165 x5:=fbk Gl CR none (by intro x;kernel_rfl) (.nil _) Tryz.func165
def Hi:List (Nat×Ann):=[(4,⟨[(1,.val (.slice (.int .u32))),(5,.own 148 (.int .u32)),(6,.val (.int .u64)),(13,.val (.slice (.int .u32))),(14,.val tI),(15,.val tI)],[],[],aW _⟩),
 (100008,⟨[(1,.val (.slice (.int .u32))),(5,.own 148 (.int .u32)),(9,.val (.int .u64)),(13,.val (.slice (.int .u32))),(14,.val tI),(15,.val tI)],[],[],fun _=>0⟩),
 (200004,⟨[(5,.own 148 (.int .u32))],[],[],fun _=>0⟩)]
def Cn:ak:=⟨[.val (.slice (.int .u32)),.val (.slice (.int .u32))],[.val (.slice (.int .u32))],fun x=>tq x.1 x.2.1⟩
noncomputable def LR:Cx:=⟨tpr,[(154,mw)],[]⟩
theorem LX:FB 166 Cn:=fbk LR Hi none (by intro x;kernel_rfl) (cz l9 (.nil _)) Tryz.func166
def wC:ak:=⟨[.val cM,.val cM],[.val cM],fun x=>lH x.1 x.2.1⟩
noncomputable def E7:Cx:=⟨tpr,[(151,jA),(164,AL),(165,x5),(166,Cn)],[]⟩
theorem Fg:FB 111 wC:=fbk E7 [] none (by intro x;kernel_rfl) (cz mJ (cz JR (cz Gv (cz LX (.nil _))))) Tryz.func111
def wD:ak:=⟨[.val cM],[.val tI],fun x=>lI x.1⟩
noncomputable def E8:Cx:=⟨tpr,[],[]⟩
theorem Fh:FB 112 wD:=fbk E8 [] none (by intro x;kernel_rfl) (.nil _) Tryz.func112
def vM:ak:=⟨[.val cM],[.val cM],fun x=>ko x.1⟩
noncomputable def De:Cx:=⟨tpr,[(151,jA)],[]⟩
theorem Dq:FB 113 vM:=fbk De [] none (by intro x;kernel_rfl) (cz mJ (.nil _)) Tryz.func113
def CQ:List (Nat×Ann):=[(5,⟨[(1,.val tI),(2,.ref 2 0),(6,.val (.int .u64)),(14,.val (.slice (.int .u32))),(15,.val tI),(16,.val tI)],[(2,mG)],[],aW _⟩),
 (200005,⟨[(1,.val tI),(2,.ref 2 0),(6,.val (.int .u64))],[(2,mG)],[],fun _=>0⟩)]
def xZ:ak:=⟨[.val cM,.val tI],[.val tI,.val .bool],fun x=>qP x.1 x.2.1⟩
noncomputable def Gk:Cx:=⟨tpr,[],[]⟩
theorem Gu:FB 167 xZ:=fbk Gk CQ none (by intro x;kernel_rfl) (.nil _) Tryz.func167
def Au:ak:=⟨[.val cM,.val tI],[.val bM,.val tI],fun x=>mR x.1 x.2.1⟩
noncomputable def Jm:Cx:=⟨tpr,[(167,xZ)],[]⟩
theorem JF:FB 114 Au:=fbk Jm [] none (by intro x;kernel_rfl) (cz Gu (.nil _)) Tryz.func114
def F7:List (Nat×Ann):=[(3,⟨[(0,.val .bool),(1,.val .str),(2,.val .str),(6,.ref 6 0),(8,.ref 8 0),(14,.val tI),(15,.val tI)],[(6,[.val tI,.val tI]),(8,mG)],[],aW _⟩),
 (200003,⟨[(0,.val .bool),(2,.val .str),(6,.ref 6 0),(8,.ref 8 0)],[(6,[.val tI,.val tI]),(8,mG)],[],fun _=>0⟩)]
def Ax:ak:=⟨[.val .bool,.val .str,.val .str],[.val bM,.val tI],fun x=>uH x.1 x.2.1 x.2.2.1⟩
noncomputable def Jp:Cx:=⟨tpr,[(98,zD),(110,vN),(111,wC),(112,wD),(113,vM),(114,Au)],[]⟩
theorem JH:FB 65 Ax:=fbk Jp F7 none (by intro x;kernel_rfl) (cz Fy (cz Dr (cz Fg (cz Fh (cz Dq (cz JF (.nil _))))))) Tryz.func65
def AU:List (Nat×Ann):=[(300003,⟨[(40,.val .bool)],[],[],fun _=>0⟩)]
def vI:ak:=⟨[.val .str],[.val bM,.val tI],fun x=>fC x.1⟩
noncomputable def C7:Cx:=⟨tpr,[(14,AK),(61,eC),(63,s8),(64,wq),(65,Ax)],[]⟩
theorem Cz:rS C7 AU none Tryz.f32 vI:=by intro x;kernel_rfl
theorem DM:bQ tpr 32 vI:=mH Cz (cz JQ (.cons jM nB (cz Bi (cz Fa (cz JH (.nil _)))))) p8 Tryz.func32
def Cm:ak:=⟨[.val .str],[.val .str],fun x=>oS x.1⟩
noncomputable def LM:Cx:=⟨tpr,[],[]⟩
theorem JD:rS LM [] none Tryz.f33 Cm:=by intro x;kernel_rfl
theorem L2:bQ tpr 33 Cm:=mH JD (.nil _) p8 Tryz.func33
def vZ:ak:=⟨[.val .str],[.val .bool],fun x=>eX x.1⟩
noncomputable def LL:Cx:=⟨tpr,[(66,tc)],[]⟩
theorem B9:FB 34 vZ:=fbk LL [] none (by intro x;kernel_rfl) (.cons Iu Ib (.nil _)) Tryz.func34
def lF:ak:=⟨[.val tI,.val tI,.val tI],[.val .bool],fun x=>iI x.1 x.2.1 x.2.2.1⟩
noncomputable def Jr:Cx:=⟨tpr,[],[]⟩
theorem oN:FB 51 lF:=fbk Jr [] none (by intro x;kernel_rfl) (.nil _) Tryz.func51
def D7:ak:=⟨[.val tI],[.val .bool],fun x=>yz x.1⟩
noncomputable def MP:Cx:=⟨tpr,[(51,lF)],[]⟩
theorem Nb:FB 35 D7:=fbk MP [] none (by intro x;kernel_rfl) (cz oN (.nil _)) Tryz.func35
def rj:ak:=⟨[.val tI],[.val .bool],fun x=>qw x.1⟩
noncomputable def Gg:Cx:=⟨tpr,[(51,lF)],[]⟩
theorem xp:FB 85 rj:=fbk Gg [] none (by intro x;kernel_rfl) (cz oN (.nil _)) Tryz.func85
def wu:ak:=⟨[.val tI],[.val (.slice tI)],fun x=>tL x.1⟩
noncomputable def E3:Cx:=⟨tpr,[],[]⟩
theorem Fb:FB 141 wu:=fbk E3 [] none (by intro x;kernel_rfl) (.nil _) Tryz.func141
def zP:List (Nat×Ann):=[(2,⟨[(0,.val (.slice tI)),(1,.val tI),(7,.val tI),(8,.val tI)],[],[],aW _⟩),
 (200002,⟨[],[],[],fun _=>0⟩)]
def tJ:ak:=⟨[.val (.slice tI),.val tI],[.val tI],fun x=>rf x.1 x.2.1⟩
noncomputable def Cy:Cx:=⟨tpr,[],[]⟩
theorem CD:FB 174 tJ:=fbk Cy zP none (by intro x;kernel_rfl) (.nil _) Tryz.func174
def kP:ak:=⟨[.val (.slice tI),.val tI],[.val .bool],fun x=>gk x.1 x.2.1⟩
noncomputable def zb:Cx:=⟨tpr,[(174,tJ)],[]⟩
theorem p0:FB 128 kP:=fbk zb [] none (by intro x;kernel_rfl) (cz CD (.nil _)) Tryz.func128
def E0:List (Nat×Ann):=[(3,⟨[(0,.val .str),(3,.val tI),(7,.val tI),(8,.val tI)],[],[],aW _⟩),
 (200003,⟨[(3,.val tI)],[],[],fun _=>0⟩)]
def yI:ak:=⟨[.val .str],[.val .bool],fun x=>xb x.1⟩
noncomputable def Hw:Cx:=⟨tpr,[],[]⟩
theorem HW:FB 142 yI:=fbk Hw E0 none (by intro x;kernel_rfl) (.nil _) Tryz.func142
def om:ak:=⟨[.val tI,.val .str],[.val .bool],fun x=>nx x.1 x.2.1⟩
noncomputable def C8:Cx:=⟨tpr,[(61,eC),(89,ri),(128,kP),(140,yJ),(141,wu),(142,yI)],[]⟩
theorem vl:FB 90 om:=fbk C8 [] none (by intro x;kernel_rfl) (.cons jM nB (.cons xC xq (cz p0 (.cons Iq H7 (cz Fb (cz HW (.nil _))))))) Tryz.func90
def vH:ak:=⟨[.val tI,.val .str],[.val .bool,.val tI],fun x=>rW x.1 x.2.1⟩
noncomputable def C6:Cx:=⟨tpr,[(85,rj),(90,om)],[]⟩
theorem Dj:FB 122 vH:=fbk C6 [] none (by intro x;kernel_rfl) (cz xp (cz vl (.nil _))) Tryz.func122
def wB:ak:=⟨[.val .str],[.val .bool],fun x=>oV x.1⟩
noncomputable def E6:Cx:=⟨tpr,[(122,vH)],[]⟩
theorem Ff:FB 67 wB:=fbk E6 [] none (by intro x;kernel_rfl) (cz Dj (.nil _)) Tryz.func67
def kN:ak:=⟨[.val bM],[.val tI],fun x=>eD x.1⟩
noncomputable def yY:Cx:=⟨tpr,[(51,lF)],[]⟩
theorem pU:FB 96 kN:=fbk yY [] none (by intro x;kernel_rfl) (cz oN (.nil _)) Tryz.func96
def F8:List (Nat×Ann):=[(3,⟨[(3,.val tI),(4,.val tI),(5,.val tI)],[],[],aW _⟩),
 (200003,⟨[(3,.val tI)],[],[],fun _=>0⟩)]
def Az:ak:=⟨[.val tI],[.val tI],fun x=>zm x.1⟩
noncomputable def Js:Cx:=⟨tpr,[],[]⟩
theorem JJ:FB 171 Az:=fbk Js F8 none (by intro x;kernel_rfl) (.nil _) Tryz.func171
def yK:ak:=⟨[.val bM,.val tI,.val tI],[.val .bool],fun x=>sG x.1 x.2.1 x.2.2.1⟩
noncomputable def Hy:Cx:=⟨tpr,[(171,Az)],[]⟩
theorem HX:FB 123 yK:=fbk Hy [] none (by intro x;kernel_rfl) (cz JJ (.nil _)) Tryz.func123
def kO:ak:=⟨[.val bM,.val .bool],[.val tI],fun x=>cJ x.1 x.2.1⟩
noncomputable def yZ:Cx:=⟨tpr,[(96,kN),(123,yK)],[]⟩
theorem pZ:FB 68 kO:=fbk yZ [] none (by intro x;kernel_rfl) (cz pU (cz HX (.nil _))) Tryz.func68
end Go.Proofs.SeatU
end
