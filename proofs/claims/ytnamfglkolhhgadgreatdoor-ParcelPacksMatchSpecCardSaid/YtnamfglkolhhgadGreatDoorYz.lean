/-
  Each function that the law reaches is as its plain model says, a further part. No condition.
-/
import Derived.Test.YtnamfglkolhhgadGreatDoorYy
set_option linter.all false
set_option maxRecDepth 100000
noncomputable section
namespace Go.Proofs.SeatU
open Go.Dn Go.Md Go.Proofs
def HU:List CK:=[.val .bool,.own 146 (.int .u32)]
def QA:List CK:=[.val .bool,.val (.slice (.int .u32))]
def C1:List CK:=[.val .str,.val .str,.val tI,.val (.slice an)]
def Sy:List (Nat×Ann):=[(3,⟨[(3,.val tI),(8,.val tI),(9,.val tI)],[],[],aO _⟩),
 (200003,⟨[(3,.val tI)],[],[],fun _=>0⟩)]
def FE:aA:=⟨[.val aY],[.val tI],fun x=>vR x.1⟩
noncomputable def WU:Cx:=⟨tpr,[],[]⟩
theorem VH:aQ WU Sy none Tryz.f27 FE:=by intro x;kernel_rfl
theorem Xt:ay tpr 27:=au Tryz.func27 rfl (by decide)
theorem X3:aF tpr 27 FE:=aH VH (.nil _) aI Tryz.func27
def yZ:aA:=⟨[.val .str,.val tI,.val tI],[.val tI],fun x=>AY x.1 x.2.1 x.2.2.1⟩
noncomputable def Vt:Cx:=⟨tpr,[(5,nt)],[]⟩
theorem Tb:aQ Vt [] none Tryz.f28 yZ:=by intro x;kernel_rfl
theorem Kx:ay tpr 28:=au Tryz.func28 rfl (by decide)
theorem KB:aF tpr 28 yZ:=aH Tb (.cons wT wN (.nil _)) aI Tryz.func28
def SB:List (Nat×Ann):=[(1,⟨[(1,.ref 1 0),(2,.ref 2 0)],[(1,[.val tI,.val tI]),(2,[.val tI,.val tI])],[],aO _⟩),
 (200001,⟨[(1,.ref 1 0),(2,.ref 2 0)],[(1,[.val tI,.val tI]),(2,[.val tI,.val tI])],[],fun _=>0⟩)]
def FI:aA:=⟨[.val aY],[.val aY],fun x=>GJ x.1⟩
noncomputable def WZ:Cx:=⟨tpr,[],[]⟩
theorem VM:aQ WZ SB none Tryz.f29 FI:=by intro x;kernel_rfl
theorem Xx:ay tpr 29:=au Tryz.func29 rfl (by decide)
theorem X7:aF tpr 29 FI:=aH VM (.nil _) aI Tryz.func29
def Vk:List (Nat×Ann):=[(10,⟨[(0,.val (.slice az)),(1,.val (.slice az)),(2,.val .str),(3,.val tI),(45,.val (.slice az)),(46,.val tI),(47,.val tI)],[],[],aO _⟩),
 (17,⟨[(0,.val (.slice az)),(1,.val (.slice az)),(2,.val .str),(3,.val tI),(14,.val tI),(59,.val (.slice az)),(60,.val tI),(61,.val tI)],[],[],aO _⟩),
 (29,⟨[(1,.val (.slice az)),(2,.val .str),(3,.val tI),(19,.own 57 an),(96,.val (.slice az)),(97,.val tI),(98,.val tI)],[],[],aO _⟩),
 (32,⟨[(1,.val (.slice az)),(2,.val .str),(3,.val tI),(19,.own 57 an),(21,.ref 21 0),(22,.val tI),(23,.val tI),(96,.val (.slice az)),(97,.val tI),(98,.val tI)],[(21,[.val .str,.val .str,.val tI,.val tI])],[],aO _⟩),
 (200010,⟨[(0,.val (.slice az)),(1,.val (.slice az)),(2,.val .str),(3,.val tI)],[],[],fun _=>0⟩),
 (200017,⟨[(0,.val (.slice az)),(1,.val (.slice az)),(2,.val .str),(3,.val tI),(14,.val tI)],[],[],fun _=>0⟩),
 (200029,⟨[(19,.own 57 an)],[],[],fun _=>0⟩),
 (200032,⟨[(1,.val (.slice az)),(2,.val .str),(3,.val tI),(19,.own 57 an),(96,.val (.slice az)),(97,.val tI),(98,.val tI)],[],[],fun _=>0⟩)]
def Hz:aA:=⟨[.val (.slice az),.val (.slice az),.val .str,.val tI],[.val (.slice an),.val tI],fun x=>J2 x.1 x.2.1 x.2.2.1 x.2.2.2.1⟩
noncomputable def YV:Cx:=⟨tpr,[(5,nt),(25,xQ),(26,Ci),(27,FE),(28,yZ),(29,FI)],[]⟩
theorem W8:aQ YV Vk none Tryz.f7 Hz:=by intro x;kernel_rfl
theorem Zc:ay tpr 7:=au Tryz.func7 rfl (by decide)
theorem Zn:aF tpr 7 Hz:=aH W8 (.cons wT wN (.cons Oo Of (.cons TT Tr (.cons X3 Xt (.cons KB Kx (.cons X7 Xx (.nil _))))))) aI Tryz.func7
def BC:List (Nat×Ann):=[(4,⟨[(0,.val (.slice bU)),(1,.val (.slice bU)),(12,.val tI),(13,.val tI)],[],[],aO _⟩),
 (200004,⟨[],[],[],fun _=>0⟩)]
def l8:aA:=⟨[.val (.slice bU),.val (.slice bU)],[.val .bool],fun x=>kr x.1 x.2.1⟩
noncomputable def C5:Cx:=⟨tpr,[],[]⟩
theorem BV:aQ C5 BC none Tryz.f30 l8:=by intro x;kernel_rfl
theorem Dd:ay tpr 30:=au Tryz.func30 rfl (by decide)
theorem Dv:aF tpr 30 l8:=aH BV (.nil _) aI Tryz.func30
def I2:List (Nat×Ann):=[(4,⟨[(1,.val (.slice an)),(13,.val (.slice an)),(14,.val tI),(15,.val tI)],[],[],aO _⟩),
 (200004,⟨[],[],[],fun _=>0⟩)]
def wj:aA:=⟨[.val (.slice an),.val (.slice an)],[.val .bool],fun x=>pJ x.1 x.2.1⟩
noncomputable def LQ:Cx:=⟨tpr,[(30,l8)],[]⟩
theorem KV:aQ LQ I2 none Tryz.f8 wj:=by intro x;kernel_rfl
theorem Mi:ay tpr 8:=au Tryz.func8 rfl (by decide)
theorem Mz:aF tpr 8 wj:=aH KV (.cons Dv Dd (.nil _)) aI Tryz.func8
def Fy:aA:=⟨[.val tI],[.val .bool],fun x=>Gu x.1⟩
noncomputable def WO:Cx:=⟨tpr,[(13,nr)],[]⟩
theorem VC:aQ WO [] none Tryz.f151 Fy:=by intro x;kernel_rfl
theorem Xo:ay tpr 151:=au Tryz.func151 rfl (by decide)
theorem XY:aF tpr 151 Fy:=aH VC (.cons wS wM (.nil _)) aI Tryz.func151
def we:aA:=⟨[.val tI,.val .str],[.val .bool,.val tI],fun x=>uI x.1 x.2.1⟩
noncomputable def LJ:Cx:=⟨tpr,[(57,sM),(62,pR)],[]⟩
theorem KP:aQ LJ [] none Tryz.f213 we:=by intro x;kernel_rfl
theorem Mf:ay tpr 213:=au Tryz.func213 rfl (by decide)
theorem Mw:aF tpr 213 we:=aH KP (.cons E5 EW (.cons Dp C8 (.nil _))) aI Tryz.func213
def xN:aA:=⟨[.val .str],[.val .bool],fun x=>ri x.1⟩
noncomputable def NS:Cx:=⟨tpr,[(213,we)],[]⟩
theorem L0:aQ NS [] none Tryz.f191 xN:=by intro x;kernel_rfl
theorem Oc:ay tpr 191:=au Tryz.func191 rfl (by decide)
theorem Ol:aF tpr 191 xN:=aH L0 (.cons Mw Mf (.nil _)) aI Tryz.func191
def Ql:List (Nat×Ann):=[(3,⟨[(3,.val tI),(6,.val (.slice tI)),(7,.val tI),(8,.val tI)],[],[],aO _⟩),
 (200003,⟨[(3,.val tI)],[],[],fun _=>0⟩)]
def yY:aA:=⟨[.val (.slice tI)],[.val tI],fun x=>Ap x.1⟩
noncomputable def Vr:Cx:=⟨tpr,[],[]⟩
theorem S9:aQ Vr Ql none Tryz.f154 yY:=by intro x;kernel_rfl
theorem Kw:ay tpr 154:=au Tryz.func154 rfl (by decide)
theorem KA:aF tpr 154 yY:=aH S9 (.nil _) aI Tryz.func154
def mX:aA:=⟨[.val bU,.val bU],[.val tI],fun x=>iZ x.1 x.2.1⟩
noncomputable def Ee:Cx:=⟨tpr,[(44,jI),(154,yY)],[]⟩
theorem DQ:aQ Ee [] none Tryz.f214 mX:=by intro x;kernel_rfl
theorem Eg:ay tpr 214:=au Tryz.func214 rfl (by decide)
theorem Ej:aF tpr 214 mX:=aH DQ (.cons oQ oN (.cons KA Kw (.nil _))) aI Tryz.func214
def Ed:List (Nat×Ann):=[(4,⟨[(0,.val (.slice bU)),(9,.val (.slice bU)),(10,.val tI),(11,.val tI)],[],[],aO _⟩),
 (200004,⟨[],[],[],fun _=>0⟩)]
def om:aA:=⟨[.val (.slice bU)],[.val tI],fun x=>jX x.1⟩
noncomputable def F5:Cx:=⟨tpr,[(78,oB),(79,gN),(214,mX)],[]⟩
theorem EN:aQ F5 Ed none Tryz.f192 om:=by intro x;kernel_rfl
theorem Gc:ay tpr 192:=au Tryz.func192 rfl (by decide)
theorem Gd:aF tpr 192 om:=aH EN (.cons yG yB (.cons lJ lH (.cons Ej Eg (.nil _)))) aI Tryz.func192
def rM:aA:=⟨[.val (.slice an),.val tI],[.val tI],fun x=>pq x.1 x.2.1⟩
noncomputable def HZ:Cx:=⟨tpr,[(79,gN),(191,xN),(192,om)],[]⟩
theorem Hf:aQ HZ [] none Tryz.f152 rM:=by intro x;kernel_rfl
theorem Il:ay tpr 152:=au Tryz.func152 rfl (by decide)
theorem Iy:aF tpr 152 rM:=aH Hf (.cons lJ lH (.cons Ol Oc (.cons Gd Gc (.nil _)))) aI Tryz.func152
def sO:aA:=⟨[.val an,.val .str],[.val tI],fun x=>xH x.1 x.2.1⟩
noncomputable def I8:Cx:=⟨tpr,[(44,jI)],[]⟩
theorem H8:aQ I8 [] none Tryz.f216 sO:=by intro x;kernel_rfl
theorem Jr:ay tpr 216:=au Tryz.func216 rfl (by decide)
theorem JM:aF tpr 216 sO:=aH H8 (.cons oQ oN (.nil _)) aI Tryz.func216
def n9:List (Nat×Ann):=[(3,⟨[(0,.val (.slice an)),(1,.val .str),(2,.val (.clo 216 .unit)),(8,.val tI),(9,.val tI),(10,.val tI)],[],[],aO _⟩),
 (200003,⟨[(0,.val (.slice an)),(1,.val .str),(2,.val (.clo 216 .unit)),(8,.val tI),(9,.val tI)],[],[],fun _=>0⟩)]
def fH:aA:=⟨[.val (.slice an),.val .str,.val (.clo 216 .unit)],[.val tI,.val .bool],fun x=>dh x.1 x.2.1 x.2.2.1⟩
noncomputable def qb:Cx:=⟨tpr,[(216,sO)],[]⟩
theorem oL:aQ qb n9 none Tryz.f215 fH:=by intro x;kernel_rfl
theorem qd:ay tpr 215:=au Tryz.func215 rfl (by decide)
theorem qj:aF tpr 215 fH:=aH oL (.cons JM Jr (.nil _)) aI Tryz.func215
def pS:aA:=⟨[.val wq,.val .str],[.val tI,.val .bool],fun x=>pn x.1 x.2.1⟩
noncomputable def LL:Cx:=⟨tpr,[(215,fH)],[]⟩
theorem KR:aQ LL [] none Tryz.f193 pS:=by intro x;kernel_rfl
theorem C9:ay tpr 193:=au Tryz.func193 rfl (by decide)
theorem Dr:aF tpr 193 pS:=aH KR (.cons qj qd (.nil _)) aI Tryz.func193
def Lp:List (Nat×Ann):=[(3,⟨[(1,.val tI),(2,.ref 2 0),(6,.own 3 tI),(7,.val tI)],[(2,C1)],[],aO _⟩),
 (200003,⟨[(6,.own 3 tI)],[],[],fun _=>0⟩)]
def zH:aA:=⟨[.val wq,.val tI],[.val (.slice tI),.val .bool],fun x=>tG x.1 x.2.1⟩
noncomputable def Pf:Cx:=⟨tpr,[(127,lS),(193,pS)],[]⟩
theorem N3:aQ Pf Lp none Tryz.f194 zH:=by intro x;kernel_rfl
theorem PF:ay tpr 194:=au Tryz.func194 rfl (by decide)
theorem PT:aF tpr 194 zH:=aH N3 (.cons x9 x6 (.cons Dr C9 (.nil _))) aI Tryz.func194
def HM:List (Nat×Ann):=[(2,⟨[(1,.ref 1 0),(14,.val (.slice an)),(15,.val tI),(16,.val tI)],[(1,C1)],[],aO _⟩),
 (9,⟨[(1,.ref 1 0),(37,.val tI),(38,.val tI)],[(1,C1)],[],aO _⟩),
 (16,⟨[(1,.ref 1 0),(52,.val tI),(53,.val tI)],[(1,C1)],[],aO _⟩),
 (200002,⟨[(1,.ref 1 0)],[(1,C1)],[],fun _=>0⟩),
 (200009,⟨[(1,.ref 1 0)],[(1,C1)],[],fun _=>0⟩),
 (200016,⟨[],[],[],fun _=>0⟩)]
def uD:aA:=⟨[.val wq],[.val tI],fun x=>sI x.1⟩
noncomputable def KM:Cx:=⟨tpr,[(193,pS),(194,zH)],[]⟩
theorem Jd:aQ KM HM none Tryz.f153 uD:=by intro x;kernel_rfl
theorem K0:ay tpr 153:=au Tryz.func153 rfl (by decide)
theorem K4:aF tpr 153 uD:=aH Jd (.cons Dr C9 (.cons PT PF (.nil _))) aI Tryz.func153
def FZ:List (Nat×Ann):=[(8,⟨[(1,.ref 1 0),(28,.val tI),(29,.val tI)],[(1,C1)],[],aO _⟩),
 (200008,⟨[(1,.ref 1 0)],[(1,C1)],[],fun _=>0⟩)]
def rJ:aA:=⟨[.val wq],[.val tI],fun x=>oV x.1⟩
noncomputable def HW:Cx:=⟨tpr,[(78,oB),(151,Fy),(152,rM),(153,uD)],[]⟩
theorem G8:aQ HW FZ none Tryz.f87 rJ:=by intro x;kernel_rfl
theorem Ii:ay tpr 87:=au Tryz.func87 rfl (by decide)
theorem Iv:aF tpr 87 rJ:=aH G8 (.cons yG yB (.cons XY Xo (.cons Iy Il (.cons K4 K0 (.nil _))))) aI Tryz.func87
def qu:aA:=⟨[.val an],[.val .bool],fun x=>uz x.1⟩
noncomputable def G6:Cx:=⟨tpr,[],[]⟩
theorem F9:aQ G6 [] none Tryz.f88 qu:=by intro x;kernel_rfl
theorem Hj:ay tpr 88:=au Tryz.func88 rfl (by decide)
theorem Ht:aF tpr 88 qu:=aH F9 (.nil _) aI Tryz.func88
def xM:aA:=⟨[.val an,.val (.ptr .str)],[.val .bool],fun x=>B6 x.1 x.2.1⟩
noncomputable def NR:Cx:=⟨tpr,[],[]⟩
theorem LZ:aQ NR [] none Tryz.f41 xM:=by intro x;kernel_rfl
theorem Ob:ay tpr 41:=au Tryz.func41 rfl (by decide)
theorem Oj:aF tpr 41 xM:=aH LZ (.nil _) aI Tryz.func41
def zi:List (Nat×Ann):=[(2,⟨[(0,.val (.slice an)),(1,.val (.clo 88 .unit)),(7,.val tI),(8,.val tI)],[],[],aO _⟩),
 (200002,⟨[],[],[],fun _=>0⟩)]
def ku:aA:=⟨[.val (.slice an),.val (.clo 88 .unit)],[.val tI],fun x=>lZ x.1 x.2.1⟩
noncomputable def Ar:Cx:=⟨tpr,[(88,qu)],[]⟩
theorem Ak:aQ Ar zi none Tryz.f103 ku:=by intro x;kernel_rfl
theorem AA:ay tpr 103:=au Tryz.func103 rfl (by decide)
theorem AJ:aF tpr 103 ku:=aH Ak (.cons Ht Hj (.nil _)) aI Tryz.func103
def xE:List (Nat×Ann):=[(2,⟨[(0,.val (.slice an)),(1,.val (.clo 41 (.ptr .str))),(7,.val tI),(8,.val tI)],[],[],aO _⟩),
 (200002,⟨[],[],[],fun _=>0⟩)]
def jB:aA:=⟨[.val (.slice an),.val (.clo 41 (.ptr .str))],[.val tI],fun x=>kP x.1 x.2.1⟩
noncomputable def zj:Cx:=⟨tpr,[(41,xM)],[]⟩
theorem xZ:aQ zj xE none Tryz.f103 jB:=by intro x;kernel_rfl
theorem zo:ay tpr 103:=au Tryz.func103 rfl (by decide)
theorem zy:aF tpr 103 jB:=aH xZ (.cons Oj Ob (.nil _)) aI Tryz.func103
def jc:aA:=⟨[.val (.slice an),.val (.clo 88 .unit)],[.val .bool],fun x=>gT x.1 x.2.1⟩
noncomputable def xY:Cx:=⟨tpr,[(103,ku)],[]⟩
theorem xF:aQ xY [] none Tryz.f40 jc:=by intro x;kernel_rfl
theorem x5:ay tpr 40:=au Tryz.func40 rfl (by decide)
theorem x8:aF tpr 40 jc:=aH xF (.cons AJ AA (.nil _)) aI Tryz.func40
def iG:aA:=⟨[.val (.slice an),.val (.clo 41 (.ptr .str))],[.val .bool],fun x=>gu x.1 x.2.1⟩
noncomputable def wJ:Cx:=⟨tpr,[(103,jB)],[]⟩
theorem vo:aQ wJ [] none Tryz.f40 iG:=by intro x;kernel_rfl
theorem wO:ay tpr 40:=au Tryz.func40 rfl (by decide)
theorem wU:aF tpr 40 iG:=aH vo (.cons zy zo (.nil _)) aI Tryz.func40
def F0:List (Nat×Ann):=[(4,⟨[(0,.val (.slice az)),(9,.val (.slice az)),(10,.val tI),(11,.val tI)],[],[],aO _⟩),
 (200004,⟨[],[],[],fun _=>0⟩)]
def rK:aA:=⟨[.val (.slice az)],[.val tI],fun x=>oW x.1⟩
noncomputable def HX:Cx:=⟨tpr,[(44,jI),(78,oB),(79,gN),(154,yY)],[]⟩
theorem G9:aQ HX F0 none Tryz.f89 rK:=by intro x;kernel_rfl
theorem Ij:ay tpr 89:=au Tryz.func89 rfl (by decide)
theorem Iw:aF tpr 89 rK:=aH G9 (.cons oQ oN (.cons yG yB (.cons lJ lH (.cons KA Kw (.nil _))))) aI Tryz.func89
def sP:aA:=⟨[.val (.slice an),.val (.slice az),.val aY],[.val tI],fun x=>mK x.1 x.2.1 x.2.2.1⟩
noncomputable def I9:Cx:=⟨tpr,[(40,jc),(87,rJ),(89,rK),(90,lR)],[]⟩
theorem H9:aQ I9 [] none Tryz.f31 sP:=by intro x;kernel_rfl
theorem Js:ay tpr 31:=au Tryz.func31 rfl (by decide)
theorem JN:aF tpr 31 sP:=aH H9 (.cons x8 x5 (.cons Iv Ii (.cons Iw Ij (.cons x7 x4 (.nil _))))) aI Tryz.func31
def kF:aA:=⟨[.val bp,.val bp],[.val bp],fun x=>fQ x.1 x.2.1⟩
noncomputable def NX:Cx:=⟨tpr,[(98,mC),(99,Cn),(100,sU),(101,za)],[]⟩
theorem L7:aQ NX [] none Tryz.f37 kF:=by intro x;kernel_rfl
theorem qC:ay tpr 37:=au Tryz.func37 rfl (by decide)
theorem qD:aF tpr 37 kF:=aH L7 (.cons tw tj (.cons TZ TA (.cons E7 EY (.cons KD Kz (.nil _))))) aI Tryz.func37
def KJ:List (Nat×Ann):=[(3,⟨[(0,.val (.slice an)),(4,.ref 4 0),(6,.mapR 16),(17,.val (.slice az)),(18,.val tI),(19,.val tI)],[(4,HU)],[.mapC 16 bN aY],aO _⟩),
 (9,⟨[(4,.ref 4 0),(6,.mapR 16),(9,.ref 9 0),(33,.val (.slice an)),(34,.val tI),(35,.val tI)],[(4,HU),(9,QA)],[.mapC 16 bN aY],aO _⟩),
 (13,⟨[(4,.ref 4 0),(6,.mapR 16),(9,.ref 9 0),(33,.val (.slice an)),(34,.val tI),(35,.val tI),(45,.val (.slice bU)),(46,.val tI),(47,.val tI)],[(4,HU),(9,QA)],[.mapC 16 bN aY],aO _⟩),
 (200003,⟨[(0,.val (.slice an)),(4,.ref 4 0),(6,.mapR 16)],[(4,HU)],[.mapC 16 bN aY],fun _=>0⟩),
 (200009,⟨[(4,.ref 4 0),(9,.ref 9 0)],[(4,HU),(9,QA)],[],fun _=>0⟩),
 (200013,⟨[(4,.ref 4 0),(6,.mapR 16),(9,.ref 9 0),(33,.val (.slice an)),(34,.val tI),(35,.val tI)],[(4,HU),(9,QA)],[.mapC 16 bN aY],fun _=>0⟩)]
def xP:aA:=⟨[.val (.slice an),.val (.slice az)],[.val bp,.val .bool],fun x=>rm x.1 x.2.1⟩
noncomputable def NU:Cx:=⟨tpr,[(37,kF),(38,nj),(82,nI),(92,jJ)],[]⟩
theorem L4:aQ NU KJ none Tryz.f91 xP:=by intro x;kernel_rfl
theorem Oe:ay tpr 91:=au Tryz.func91 rfl (by decide)
theorem On:aF tpr 91 xP:=aH L4 (.cons qD qC (.cons uj uf (.cons zx zn (.cons oS oO (.nil _))))) aI Tryz.func91
def xR:aA:=⟨[.val bp,.val bp],[.val bp],fun x=>xA x.1 x.2.1⟩
noncomputable def NW:Cx:=⟨tpr,[(37,kF),(147,pW)],[]⟩
theorem L6:aQ NW [] none Tryz.f96 xR:=by intro x;kernel_rfl
theorem Og:ay tpr 96:=au Tryz.func96 rfl (by decide)
theorem Oq:aF tpr 96 xR:=aH L6 (.cons qD qC (.cons Dx Df (.nil _))) aI Tryz.func96
def kz:aA:=⟨[.val bp,.val bp],[.val tI],fun x=>gO x.1 x.2.1⟩
noncomputable def Jb:Cx:=⟨tpr,[(96,xR),(97,qO)],[]⟩
theorem Ib:aQ Jb [] none Tryz.f34 kz:=by intro x;kernel_rfl
theorem sA:ay tpr 34:=au Tryz.func34 rfl (by decide)
theorem sD:aF tpr 34 kz:=aH Ib (.cons Oq Og (.cons D8 D5 (.nil _))) aI Tryz.func34
def pT:aA:=⟨[.val aS,.val aS],[.val tI],fun x=>jY x.1 x.2.1⟩
noncomputable def LM:Cx:=⟨tpr,[(34,kz)],[]⟩
theorem KS:aQ LM [] none Tryz.f95 pT:=by intro x;kernel_rfl
theorem Da:ay tpr 95:=au Tryz.func95 rfl (by decide)
theorem Ds:aF tpr 95 pT:=aH KS (.cons sD sA (.nil _)) aI Tryz.func95
def oG:List (Nat×Ann):=[(1,⟨[(0,.rowR 10250000),(1,.val tI),(2,.val tI),(3,.val (.clo 95 .unit)),(8,.val tI)],[],[.rowC 10250000 70 aS],aO _⟩),
 (4,⟨[(0,.rowR 10250000),(1,.val tI),(2,.val tI),(3,.val (.clo 95 .unit)),(8,.val tI),(9,.val tI)],[],[.rowC 10250000 70 aS],aO _⟩),
 (200001,⟨[],[],[.rowC 10250000 70 aS],fun _=>0⟩),
 (200004,⟨[(0,.rowR 10250000),(1,.val tI),(2,.val tI),(3,.val (.clo 95 .unit)),(8,.val tI)],[],[.rowC 10250000 70 aS],fun _=>0⟩)]
def fN:aA:=⟨[.mrow 70 aS,.val tI,.val tI,.val (.clo 95 .unit)],[],fun x=>cr x.1 x.2.1 x.2.2.1 x.2.2.2.1⟩
noncomputable def qz:Cx:=⟨tpr,[(95,pT)],[]⟩
theorem qc:aQ qz oG none Tryz.f195 fN:=by intro x;kernel_rfl
theorem qA:ay tpr 195:=au Tryz.func195 rfl (by decide)
theorem qB:aF tpr 195 fN:=aH qc (.cons Ds Da (.nil _)) aI Tryz.func195
def rS:List (Nat×Ann):=[(1,⟨[(0,.rowR 10250000),(1,.val tI),(2,.val tI),(3,.val tI),(10,.val tI)],[],[.rowC 10250000 70 aS],aO _⟩),
 (200001,⟨[],[],[.rowC 10250000 70 aS],fun _=>0⟩)]
def gJ:aA:=⟨[.mrow 70 aS,.val tI,.val tI,.val tI,.val (.clo 95 .unit)],[],fun x=>cc x.1 x.2.1 x.2.2.1 x.2.2.2.1 x.2.2.2.2.1⟩
noncomputable def s9:Cx:=⟨tpr,[],[]⟩
theorem su:aQ s9 rS none Tryz.f224 gJ:=by intro x;kernel_rfl
theorem tg:ay tpr 224:=au Tryz.func224 rfl (by decide)
theorem tv:aF tpr 224 gJ:=aH su (.nil _) aI Tryz.func224
end Go.Proofs.SeatU
end
