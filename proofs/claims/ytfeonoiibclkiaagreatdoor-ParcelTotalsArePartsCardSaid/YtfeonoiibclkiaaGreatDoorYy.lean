/-
  Each function that the law reaches is as its plain model says, a further part. No condition.
-/
import Derived.Test.YtfeonoiibclkiaaGreatDoorYw
set_option linter.all false
set_option maxRecDepth 100000
noncomputable section
namespace Go.Proofs.SeatU
open Go.Dn Go.Md Go.Proofs
def nN:List CK:=[.val .bool,.own 104 (.int .u32)]
def gB:List CK:=[.val .bool,.val (.slice (.int .u32))]
def xQ:List (Nat×Ann):=[(8,⟨[(1,.ref 1 0),(28,.val tI),(29,.val tI)],[(1,[.val .str,.val .str,.val tI,.val (.slice bQ)])],[],bz _⟩),
 (200008,⟨[(1,.ref 1 0)],[(1,[.val .str,.val .str,.val tI,.val (.slice bQ)])],[],fun _=>0⟩)]
def lq:aA:=⟨[.val bU],[.val tI],fun x=>jW x.1⟩
noncomputable def zj:Cx:=⟨tpr,[(49,qy),(50,xB),(51,lu),(52,nv)],[]⟩
theorem yE:aW zj xQ none Tryz.f28 lq:=by intro x;kernel_rfl
theorem zw:av tpr 28:=aq Tryz.func28 rfl (by decide)
theorem zB:aG tpr 28 lq:=aH yE (.cons Bf A8 (.cons K4 KG (.cons zC zx (.cons BD BA (.nil _))))) aJ Tryz.func28
def fG:aA:=⟨[.val bU,.val .str,.val .bool],[.val tI],fun x=>cZ x.1 x.2.1 x.2.2.1⟩
noncomputable def Ab:Cx:=⟨tpr,[(21,eZ),(28,lq)],[]⟩
theorem zm:aW Ab [] none Tryz.f12 fG:=by intro x;kernel_rfl
theorem lT:av tpr 12:=aq Tryz.func12 rfl (by decide)
theorem lX:aG tpr 12 fG:=aH zm (.cons jT jP (.cons zB zw (.nil _))) aJ Tryz.func12
def mj:aA:=⟨[.val tI,.val (.ptr bU),.val (.ptr .str)],[.val .bool],fun x=>o9 x.1 x.2.1 x.2.2.1⟩
noncomputable def Aa:Cx:=⟨tpr,[],[]⟩
theorem zl:aW Aa [] none Tryz.f48 mj:=by intro x;kernel_rfl
theorem Ap:av tpr 48:=aq Tryz.func48 rfl (by decide)
theorem AE:aG tpr 48 mj:=aH zl (.nil _) aJ Tryz.func48
def vA:List (Nat×Ann):=[(2,⟨[(0,.val (.slice tI)),(1,.val (.clo 48 (.pair (.ptr bU) (.ptr .str)))),(7,.val tI),(8,.val tI)],[],[],bz _⟩),
 (200002,⟨[],[],[],fun _=>0⟩)]
def jA:aA:=⟨[.val (.slice tI),.val (.clo 48 (.pair (.ptr bU) (.ptr .str)))],[.val tI],fun x=>mg x.1 x.2.1⟩
noncomputable def xS:Cx:=⟨tpr,[(48,mj)],[]⟩
theorem wJ:aW xS vA none Tryz.f82 jA:=by intro x;kernel_rfl
theorem xY:av tpr 82:=aq Tryz.func82 rfl (by decide)
theorem x6:aG tpr 82 jA:=aH wJ (.cons AE Ap (.nil _)) aJ Tryz.func82
def gV:aA:=⟨[.val (.slice tI),.val (.clo 48 (.pair (.ptr bU) (.ptr .str)))],[.val .bool],fun x=>jw x.1 x.2.1⟩
noncomputable def u9:Cx:=⟨tpr,[(82,jA)],[]⟩
theorem uq:aW u9 [] none Tryz.f47 gV:=by intro x;kernel_rfl
theorem vg:av tpr 47:=aq Tryz.func47 rfl (by decide)
theorem vh:aG tpr 47 gV:=aH uq (.cons x6 xY (.nil _)) aJ Tryz.func47
def ki:aA:=⟨[.val bU,.val tI,.val .str],[.val .bool],fun x=>gO x.1 x.2.1 x.2.2.1⟩
noncomputable def B6:Cx:=⟨tpr,[(22,iW),(47,gV)],[]⟩
theorem Bv:aW B6 [] none Tryz.f24 ki:=by intro x;kernel_rfl
theorem uv:av tpr 24:=aq Tryz.func24 rfl (by decide)
theorem uI:aG tpr 24 ki:=aH Bv (.cons qM qK (.cons vh vg (.nil _))) aJ Tryz.func24
def pq:aA:=⟨[.val bU,.val tI,.val .str],[.val .bool],fun x=>gp x.1 x.2.1 x.2.2.1⟩
noncomputable def Dw:Cx:=⟨tpr,[(24,ki)],[]⟩
theorem Cc:aW Dw [] none Tryz.f13 pq:=by intro x;kernel_rfl
theorem DM:av tpr 13:=aq Tryz.func13 rfl (by decide)
theorem DU:aG tpr 13 pq:=aH Cc (.cons uI uv (.nil _)) aJ Tryz.func13
def BT:List (Nat×Ann):=[(1,⟨[(0,.val (.slice (.int .u32)))],[],[],bz _⟩),
 (200001,⟨[(0,.val (.slice (.int .u32)))],[],[],fun _=>0⟩)]
def iZ:aA:=⟨[.val (.slice (.int .u32))],[.val (.slice (.int .u32))],fun x=>jI x.1⟩
noncomputable def EG:Cx:=⟨tpr,[],[]⟩
theorem DJ:aW EG BT none Tryz.f87 iZ:=by intro x;kernel_rfl
theorem qL:av tpr 87:=aq Tryz.func87 rfl (by decide)
theorem qN:aG tpr 87 iZ:=aH DJ (.nil _) aJ Tryz.func87
def gW:aA:=⟨[.val .bool,.val (.slice (.int .u32))],[.val aD],fun x=>eN x.1 x.2.1⟩
noncomputable def Ju:Cx:=⟨tpr,[(87,iZ)],[]⟩
theorem Ho:aW Ju [] none Tryz.f53 gW:=by intro x;kernel_rfl
theorem mH:av tpr 53:=aq Tryz.func53 rfl (by decide)
theorem mJ:aG tpr 53 gW:=aH Ho (.cons qN qL (.nil _)) aJ Tryz.func53
def Jk:List (Nat×Ann):=[(100003,⟨[(0,.val tI),(2,.ref 2 0),(3,.val (.int .u64))],[(2,nN)],[],fun _=>0⟩)]
def nh:aA:=⟨[.val tI],[.val aD],fun x=>mB x.1⟩
noncomputable def LU:Cx:=⟨tpr,[(53,gW)],[]⟩
theorem Kw:aW LU Jk none Tryz.f29 nh:=by intro x;kernel_rfl
theorem tO:av tpr 29:=aq Tryz.func29 rfl (by decide)
theorem tU:aG tpr 29 nh:=aH Kw (.cons mJ mH (.nil _)) aJ Tryz.func29
def z6:List (Nat×Ann):=[(3,⟨[(2,.ref 2 0),(3,.ref 3 0),(4,.ref 4 0),(5,.rowR 18),(20,.val (.slice (.int .u32))),(21,.val tI),(22,.val tI)],[(2,gB),(3,gB),(4,nN)],[.rowC 18 104 (.int .u32)],bz _⟩),
 (7,⟨[(2,.ref 2 0),(3,.ref 3 0),(4,.ref 4 0),(5,.rowR 18),(6,.val tI),(7,.val (.int .u32)),(8,.val (.int .u64)),(20,.val (.slice (.int .u32))),(21,.val tI),(22,.val tI),(28,.val (.slice (.int .u32))),(29,.val tI),(30,.val tI)],[(2,gB),(3,gB),(4,nN)],[.rowC 18 104 (.int .u32)],bz _⟩),
 (200003,⟨[(2,.ref 2 0),(3,.ref 3 0),(4,.ref 4 0),(5,.rowR 18)],[(2,gB),(3,gB),(4,nN)],[.rowC 18 104 (.int .u32)],fun _=>0⟩),
 (200007,⟨[(2,.ref 2 0),(3,.ref 3 0),(4,.ref 4 0),(5,.rowR 18),(6,.val tI),(8,.val (.int .u64)),(20,.val (.slice (.int .u32))),(21,.val tI),(22,.val tI)],[(2,gB),(3,gB),(4,nN)],[.rowC 18 104 (.int .u32)],fun _=>0⟩)]
def ko:aA:=⟨[.val aD,.val aD],[.val aD],fun x=>kr x.1 x.2.1⟩
noncomputable def B9:Cx:=⟨tpr,[(53,gW)],[]⟩
theorem By:aW B9 z6 none Tryz.f57 ko:=by intro x;kernel_rfl
theorem ux:av tpr 57:=aq Tryz.func57 rfl (by decide)
theorem uK:aG tpr 57 ko:=aH By (.cons mJ mH (.nil _)) aJ Tryz.func57
def Et:List (Nat×Ann):=[(3,⟨[(2,.ref 2 0),(3,.ref 3 0),(5,.val tI),(6,.val tI)],[(2,nN),(3,gB)],[],bz _⟩),
 (200003,⟨[(2,.ref 2 0),(3,.ref 3 0)],[(2,nN),(3,gB)],[],fun _=>0⟩)]
def tg:aA:=⟨[.val tI],[.val aD],fun x=>uj x.1⟩
noncomputable def He:Cx:=⟨tpr,[(29,nh),(57,ko)],[]⟩
theorem FT:aW He Et none Tryz.f58 tg:=by intro x;kernel_rfl
theorem HA:av tpr 58:=aq Tryz.func58 rfl (by decide)
theorem HS:aG tpr 58 tg:=aH FT (.cons tU tO (.cons uK ux (.nil _))) aJ Tryz.func58
def qV:aA:=⟨[.val cL,.val tI],[.val aD],fun x=>fL x.1 x.2.1⟩
noncomputable def Ez:Cx:=⟨tpr,[(29,nh),(57,ko),(58,tg)],[]⟩
theorem DC:aW Ez [] none Tryz.f31 qV:=by intro x;kernel_rfl
theorem ES:av tpr 31:=aq Tryz.func31 rfl (by decide)
theorem E1:aG tpr 31 qV:=aH DC (.cons tU tO (.cons uK ux (.cons HS HA (.nil _)))) aJ Tryz.func31
def GV:List (Nat×Ann):=[(6,⟨[(1,.val (.slice (.int .u32))),(5,.own 104 (.int .u32)),(6,.val (.int .u64)),(20,.val (.slice (.int .u32))),(21,.val tI),(22,.val tI)],[],[],bz _⟩),
 (100002,⟨[(0,.val (.slice (.int .u32))),(1,.val (.slice (.int .u32)))],[],[],fun _=>0⟩),
 (100010,⟨[(1,.val (.slice (.int .u32))),(5,.own 104 (.int .u32)),(6,.val (.int .u64)),(20,.val (.slice (.int .u32))),(21,.val tI),(22,.val tI)],[],[],fun _=>0⟩),
 (200006,⟨[(5,.own 104 (.int .u32)),(6,.val (.int .u64))],[],[],fun _=>0⟩)]
def xF:aA:=⟨[.val (.slice (.int .u32)),.val (.slice (.int .u32))],[.row 104 (.int .u32)],fun x=>uX x.1 x.2.1⟩
noncomputable def Kq:Cx:=⟨tpr,[],[]⟩
theorem Jz:aW Kq GV none Tryz.f54 xF:=by intro x;kernel_rfl
theorem KL:av tpr 54:=aq Tryz.func54 rfl (by decide)
theorem K9:aG tpr 54 xF:=aH Jz (.nil _) aJ Tryz.func54
def Eu:List (Nat×Ann):=[(6,⟨[(1,.val (.slice (.int .u32))),(5,.own 104 (.int .u32)),(6,.val (.int .u64)),(20,.val (.slice (.int .u32))),(21,.val tI),(22,.val tI)],[],[],bz _⟩),
 (100002,⟨[(0,.val (.slice (.int .u32))),(1,.val (.slice (.int .u32)))],[],[],fun _=>0⟩),
 (100010,⟨[(1,.val (.slice (.int .u32))),(5,.own 104 (.int .u32)),(6,.val (.int .u64)),(20,.val (.slice (.int .u32))),(21,.val tI),(22,.val tI)],[],[],fun _=>0⟩),
 (200006,⟨[(5,.own 104 (.int .u32)),(6,.val (.int .u64))],[],[],fun _=>0⟩)]
def th:aA:=⟨[.val (.slice (.int .u32)),.val (.slice (.int .u32))],[.val (.slice (.int .u32))],fun x=>yX x.1 x.2.1⟩
noncomputable def Hf:Cx:=⟨tpr,[],[]⟩
theorem FU:aW Hf Eu none Tryz.f54 th:=by intro x;kernel_rfl
theorem HB:av tpr 54:=aq Tryz.func54 rfl (by decide)
theorem HT:aG tpr 54 th:=aH FU (.nil _) aJ Tryz.func54
def BS:List (Nat×Ann):=[(4,⟨[(0,.val (.slice (.int .u32))),(1,.val (.slice (.int .u32))),(5,.val tI)],[],[],bz _⟩),
 (200004,⟨[],[],[],fun _=>0⟩)]
def mo:aA:=⟨[.val (.slice (.int .u32)),.val (.slice (.int .u32))],[.val tI],fun x=>mP x.1 x.2.1⟩
noncomputable def EF:Cx:=⟨tpr,[],[]⟩
theorem DI:aW EF BS none Tryz.f55 mo:=by intro x;kernel_rfl
theorem wS:av tpr 55:=aq Tryz.func55 rfl (by decide)
theorem w5:aG tpr 55 mo:=aH DI (.nil _) aJ Tryz.func55
def FB:List (Nat×Ann):=[(4,⟨[(1,.val (.slice (.int .u32))),(5,.own 104 (.int .u32)),(6,.val (.int .u64)),(13,.val (.slice (.int .u32))),(14,.val tI),(15,.val tI)],[],[],bz _⟩),
 (100008,⟨[(1,.val (.slice (.int .u32))),(5,.own 104 (.int .u32)),(9,.val (.int .u64)),(13,.val (.slice (.int .u32))),(14,.val tI),(15,.val tI)],[],[],fun _=>0⟩),
 (200004,⟨[(5,.own 104 (.int .u32))],[],[],fun _=>0⟩)]
def qB:aA:=⟨[.val (.slice (.int .u32)),.val (.slice (.int .u32))],[.val (.slice (.int .u32))],fun x=>oZ x.1 x.2.1⟩
noncomputable def Jt:Cx:=⟨tpr,[(87,iZ)],[]⟩
theorem Hl:aW Jt FB none Tryz.f56 qB:=by intro x;kernel_rfl
theorem Bb:av tpr 56:=aq Tryz.func56 rfl (by decide)
theorem Bi:aG tpr 56 qB:=aH Hl (.cons qN qL (.nil _)) aJ Tryz.func56
def pG:aA:=⟨[.val aD,.val aD],[.val aD],fun x=>gu x.1 x.2.1⟩
noncomputable def Dz:Cx:=⟨tpr,[(53,gW),(54,th),(55,mo),(56,qB)],[]⟩
theorem Cf:aW Dz [] none Tryz.f30 pG:=by intro x;kernel_rfl
theorem DQ:av tpr 30:=aq Tryz.func30 rfl (by decide)
theorem DY:aG tpr 30 pG:=aH Cf (.cons mJ mH (.cons HT HB (.cons w5 wS (.cons Bi Bb (.nil _))))) aJ Tryz.func30
def iX:aA:=⟨[.map aI aD,.val aI,.val cL],[],fun x=>gP x.1 x.2.1 x.2.2.1⟩
noncomputable def wG:Cx:=⟨tpr,[(29,nh),(30,pG),(31,qV)],[]⟩
theorem vF:aW wG [] none Tryz.f14 iX:=by intro x;kernel_rfl
theorem wQ:av tpr 14:=aq Tryz.func14 rfl (by decide)
theorem wY:aG tpr 14 iX:=aH vF (.cons tU tO (.cons DY DQ (.cons E1 ES (.nil _)))) aJ Tryz.func14
def Dt:List (Nat×Ann):=[(4,⟨[(2,.ref 2 0),(3,.ref 3 0),(4,.ref 4 0),(5,.ref 5 0),(6,.rowR 12),(7,.val (.slice (.int .u32))),(8,.val tI)],[(2,gB),(3,gB),(4,nN),(5,nN)],[.rowC 12 104 (.int .u32)],bz _⟩),
 (200004,⟨[(4,.ref 4 0),(5,.ref 5 0),(6,.rowR 12),(7,.val (.slice (.int .u32)))],[(4,nN),(5,nN)],[.rowC 12 104 (.int .u32)],fun _=>0⟩)]
def su:aA:=⟨[.val aD,.val aD],[.val aD,.val aD],fun x=>ot x.1 x.2.1⟩
noncomputable def FK:Cx:=⟨tpr,[(53,gW),(54,xF),(55,mo),(56,qB),(87,iZ)],[]⟩
theorem EK:aW FK Dt none Tryz.f92 su:=by intro x;kernel_rfl
theorem F9:av tpr 92:=aq Tryz.func92 rfl (by decide)
theorem Gp:aG tpr 92 su:=aH EK (.cons mJ mH (.cons K9 KL (.cons w5 wS (.cons Bi Bb (.cons qN qL (.nil _)))))) aJ Tryz.func92
def pH:aA:=⟨[.val aD],[.val tI],fun x=>iL x.1⟩
noncomputable def DA:Cx:=⟨tpr,[],[]⟩
theorem Cg:aW DA [] none Tryz.f93 pH:=by intro x;kernel_rfl
theorem DR:av tpr 93:=aq Tryz.func93 rfl (by decide)
theorem DZ:aG tpr 93 pH:=aH Cg (.nil _) aJ Tryz.func93
def oe:aA:=⟨[.val aD],[.val aD],fun x=>nI x.1⟩
noncomputable def B8:Cx:=⟨tpr,[(53,gW)],[]⟩
theorem Bx:aW B8 [] none Tryz.f94 oe:=by intro x;kernel_rfl
theorem Cn:av tpr 94:=aq Tryz.func94 rfl (by decide)
theorem CA:aG tpr 94 oe:=aH Bx (.cons mJ mH (.nil _)) aJ Tryz.func94
def BR:List (Nat×Ann):=[(5,⟨[(1,.val tI),(2,.ref 2 0),(6,.val (.int .u64)),(14,.val (.slice (.int .u32))),(15,.val tI),(16,.val tI)],[(2,gB)],[],bz _⟩),
 (200005,⟨[(1,.val tI),(2,.ref 2 0),(6,.val (.int .u64))],[(2,gB)],[],fun _=>0⟩)]
def qZ:aA:=⟨[.val aD,.val tI],[.val tI,.val .bool],fun x=>qE x.1 x.2.1⟩
noncomputable def EE:Cx:=⟨tpr,[],[]⟩
theorem DH:aW EE BR none Tryz.f129 qZ:=by intro x;kernel_rfl
theorem EX:av tpr 129:=aq Tryz.func129 rfl (by decide)
theorem E6:aG tpr 129 qZ:=aH DH (.nil _) aJ Tryz.func129
def s6:aA:=⟨[.val aD,.val tI],[.val cL,.val tI],fun x=>pM x.1 x.2.1⟩
noncomputable def GY:Cx:=⟨tpr,[(129,qZ)],[]⟩
theorem FL:aW GY [] none Tryz.f95 s6:=by intro x;kernel_rfl
theorem Ht:av tpr 95:=aq Tryz.func95 rfl (by decide)
theorem HM:aG tpr 95 s6:=aH FL (.cons E6 EX (.nil _)) aJ Tryz.func95
def BN:List (Nat×Ann):=[(2,⟨[(1,.val tI),(2,.ref 2 0),(4,.ref 4 0),(6,.ref 6 0)],[(2,gB),(4,[.val tI,.val tI]),(6,gB)],[],bz _⟩),
 (200002,⟨[(1,.val tI),(2,.ref 2 0),(4,.ref 4 0)],[(2,gB),(4,[.val tI,.val tI])],[],fun _=>0⟩)]
def qU:aA:=⟨[.val aD,.val tI],[.val cL,.val tI],fun x=>qa x.1 x.2.1⟩
noncomputable def Ey:Cx:=⟨tpr,[(29,nh),(92,su),(93,pH),(94,oe),(95,s6)],[]⟩
theorem DB:aW Ey BN none Tryz.f63 qU:=by intro x;kernel_rfl
theorem ER:av tpr 63:=aq Tryz.func63 rfl (by decide)
theorem E0:aG tpr 63 qU:=aH DB (.cons tU tO (.cons Gp F9 (.cons DZ DR (.cons CA Cn (.cons HM Ht (.nil _)))))) aJ Tryz.func63
end Go.Proofs.SeatU
end
