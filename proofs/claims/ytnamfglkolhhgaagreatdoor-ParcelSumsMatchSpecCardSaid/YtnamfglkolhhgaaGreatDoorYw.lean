/-
  Each function that the law reaches is as its plain model says. No condition.
-/
import Derived.Test.YtnamfglkolhhgaaGreatDoorYx
set_option linter.all false
set_option maxRecDepth 100000
noncomputable section
namespace Go.Proofs
abbrev tpr:=Tryz.prog
end Go.Proofs
namespace Go.Proofs.SeatU
open Go.Dn Go.Md Go.Proofs
theorem aN:Tryz.prog.follows .mixedOrders=true:=by kernel_rfl
def aT (X:Cx) (anns:List (Nat×Ann)) (ar:Option Ty) (fn:Func) (sp:ay):Prop:=∀ x,QM X anns ar fn sp x=sp.m x
theorem aJ {X:Cx} {anns:List (Nat×Ann)} {ar:Option Ty} {fn:Func} {sp:ay} (h:aT X anns ar fn sp) (hX:b6 X) (hm:X.P.follows .mixedOrders=true) {f:FuncId} (hf:X.P.funcs[f]? =some fn):aD X.P f sp:=Yw hX hm sp anns ar hf fun x _ e=>(h x).trans e
def xZ:List CK:=[.val .str,.val .str,.val tI,.val (.slice bh)]
def oI:ay:=⟨[.val .str],[.val .bool],fun x=>dQ x.1⟩
noncomputable def O9:Cx:=⟨tpr,[(56,vK)],[]⟩
theorem MO:aT O9 [] none Tryz.f22 oI:=by intro x;kernel_rfl
theorem yQ:aq tpr 22:=aj Tryz.func22 rfl (by decide)
theorem yV:aD tpr 22 oI:=aJ MO (.cons LX Lx (.nil _)) aN Tryz.func22
def jE:ay:=⟨[.val tI,.val tI,.val tI],[.val .bool],fun x=>jA x.1 x.2.1 x.2.2.1⟩
noncomputable def MC:Cx:=⟨tpr,[],[]⟩
theorem K2:aT MC [] none Tryz.f68 jE:=by intro x;kernel_rfl
theorem qX:aq tpr 68:=aj Tryz.func68 rfl (by decide)
theorem q8:aD tpr 68 jE:=aJ K2 (.nil _) aN Tryz.func68
def Bc:ay:=⟨[.val tI],[.val .bool],fun x=>B1 x.1⟩
noncomputable def Qz:Cx:=⟨tpr,[(68,jE)],[]⟩
theorem Pj:aT Qz [] none Tryz.f53 Bc:=by intro x;kernel_rfl
theorem Q9:aq tpr 53:=aj Tryz.func53 rfl (by decide)
theorem RG:aD tpr 53 Bc:=aJ Pj (.cons q8 qX (.nil _)) aN Tryz.func53
def nV:ay:=⟨[.val tI],[.val .bool],fun x=>sF x.1⟩
noncomputable def JR:Cx:=⟨tpr,[(68,jE)],[]⟩
theorem IF:aT JR [] none Tryz.f124 nV:=by intro x;kernel_rfl
theorem Au:aq tpr 124:=aj Tryz.func124 rfl (by decide)
theorem AH:aD tpr 124 nV:=aJ IF (.cons q8 qX (.nil _)) aN Tryz.func124
def rM:ay:=⟨[.val tI],[.val (.slice tI)],fun x=>wg x.1⟩
noncomputable def Iv:Cx:=⟨tpr,[],[]⟩
theorem GC:aT Iv [] none Tryz.f169 rM:=by intro x;kernel_rfl
theorem IM:aq tpr 169:=aj Tryz.func169 rfl (by decide)
theorem IW:aD tpr 169 rM:=aJ GC (.nil _) aN Tryz.func169
def C7:List (Nat×Ann):=[(2,⟨[(0,.val (.slice tI)),(1,.val tI),(7,.val tI),(8,.val tI)],[],[],aW _⟩),
 (200002,⟨[],[],[],fun _=>0⟩)]
def pE:ay:=⟨[.val (.slice tI),.val tI],[.val tI],fun x=>tP x.1 x.2.1⟩
noncomputable def FA:Cx:=⟨tpr,[],[]⟩
theorem D6:aT FA C7 none Tryz.f91 pE:=by intro x;kernel_rfl
theorem FL:aq tpr 91:=aj Tryz.func91 rfl (by decide)
theorem FO:aD tpr 91 pE:=aJ D6 (.nil _) aN Tryz.func91
def fh:ay:=⟨[.val (.slice tI),.val tI],[.val .bool],fun x=>eN x.1 x.2.1⟩
noncomputable def Ct:Cx:=⟨tpr,[(91,pE)],[]⟩
theorem BF:aT Ct [] none Tryz.f47 fh:=by intro x;kernel_rfl
theorem l8:aq tpr 47:=aj Tryz.func47 rfl (by decide)
theorem mg:aD tpr 47 fh:=aJ BF (.cons FO FL (.nil _)) aN Tryz.func47
def JG:List (Nat×Ann):=[(2,⟨[(0,.val .str),(1,.val (.int .u8)),(2,.val (.int .u8)),(9,.val tI),(10,.val tI)],[],[],aW _⟩),
 (200002,⟨[],[],[],fun _=>0⟩)]
def wQ:ay:=⟨[.val .str,.val (.int .u8),.val (.int .u8)],[.val .bool],fun x=>CA x.1 x.2.1 x.2.2.1⟩
noncomputable def MB:Cx:=⟨tpr,[],[]⟩
theorem K1:aT MB JG none Tryz.f164 wQ:=by intro x;kernel_rfl
theorem M0:aq tpr 164:=aj Tryz.func164 rfl (by decide)
theorem Ns:aD tpr 164 wQ:=aJ K1 (.nil _) aN Tryz.func164
def pR:ay:=⟨[.val .str],[.val .bool],fun x=>qh x.1⟩
noncomputable def KS:Cx:=⟨tpr,[(164,wQ)],[]⟩
theorem JY:aT KS [] none Tryz.f122 pR:=by intro x;kernel_rfl
theorem BW:aq tpr 122:=aj Tryz.func122 rfl (by decide)
theorem B3:aD tpr 122 pR:=aJ JY (.cons Ns M0 (.nil _)) aN Tryz.func122
def Ir:List (Nat×Ann):=[(3,⟨[(0,.val .str),(3,.val tI),(7,.val tI),(8,.val tI)],[],[],aW _⟩),
 (200003,⟨[(3,.val tI)],[],[],fun _=>0⟩)]
def vF:ay:=⟨[.val .str],[.val .bool],fun x=>Ag x.1⟩
noncomputable def KR:Cx:=⟨tpr,[],[]⟩
theorem JX:aT KR Ir none Tryz.f170 vF:=by intro x;kernel_rfl
theorem Ls:aq tpr 170:=aj Tryz.func170 rfl (by decide)
theorem LR:aD tpr 170 vF:=aJ JX (.nil _) aN Tryz.func170
def lT:ay:=⟨[.val tI,.val .str],[.val .bool],fun x=>pG x.1 x.2.1⟩
noncomputable def Gu:Cx:=⟨tpr,[(47,fh),(122,pR),(128,tU),(168,Cc),(169,rM),(170,vF)],[]⟩
theorem FC:aT Gu [] none Tryz.f129 lT:=by intro x;kernel_rfl
theorem x7:aq tpr 129:=aj Tryz.func129 rfl (by decide)
theorem yh:aD tpr 129 lT:=aJ FC (.cons mg l8 (.cons B3 BW (.cons AG As (.cons LS Lt (.cons IW IM (.cons LR Ls (.nil _))))))) aN Tryz.func129
def qF:ay:=⟨[.val tI,.val .str],[.val .bool,.val tI],fun x=>uK x.1 x.2.1⟩
noncomputable def Gt:Cx:=⟨tpr,[(124,nV),(129,lT)],[]⟩
theorem FB:aT Gt [] none Tryz.f145 qF:=by intro x;kernel_rfl
theorem GR:aq tpr 145:=aj Tryz.func145 rfl (by decide)
theorem Hg:aD tpr 145 qF:=aJ FB (.cons AH Au (.cons yh x7 (.nil _))) aN Tryz.func145
def rQ:ay:=⟨[.val .str],[.val .bool],fun x=>rq x.1⟩
noncomputable def Iz:Cx:=⟨tpr,[(145,qF)],[]⟩
theorem GH:aT Iz [] none Tryz.f101 rQ:=by intro x;kernel_rfl
theorem IS:aq tpr 101:=aj Tryz.func101 rfl (by decide)
theorem I1:aD tpr 101 rQ:=aJ GH (.cons Hg GR (.nil _)) aN Tryz.func101
def mo:ay:=⟨[.val bR],[.val tI],fun x=>gG x.1⟩
noncomputable def Cq:Cx:=⟨tpr,[(68,jE)],[]⟩
theorem BC:aT Cq [] none Tryz.f146 mo:=by intro x;kernel_rfl
theorem Cy:aq tpr 146:=aj Tryz.func146 rfl (by decide)
theorem CG:aD tpr 146 mo:=aJ BC (.cons q8 qX (.nil _)) aN Tryz.func146
def JH:List (Nat×Ann):=[(3,⟨[(3,.val tI),(4,.val tI),(5,.val tI)],[],[],aW _⟩),
 (200003,⟨[(3,.val tI)],[],[],fun _=>0⟩)]
def wR:ay:=⟨[.val tI],[.val tI],fun x=>CJ x.1⟩
noncomputable def MD:Cx:=⟨tpr,[],[]⟩
theorem K3:aT MD JH none Tryz.f192 wR:=by intro x;kernel_rfl
theorem M3:aq tpr 192:=aj Tryz.func192 rfl (by decide)
theorem Nt:aD tpr 192 wR:=aJ K3 (.nil _) aN Tryz.func192
def vG:ay:=⟨[.val bR,.val tI,.val tI],[.val .bool],fun x=>u6 x.1 x.2.1 x.2.2.1⟩
noncomputable def KU:Cx:=⟨tpr,[(192,wR)],[]⟩
theorem JZ:aT KU [] none Tryz.f147 vG:=by intro x;kernel_rfl
theorem Lu:aq tpr 147:=aj Tryz.func147 rfl (by decide)
theorem LU:aD tpr 147 vG:=aJ JZ (.cons Nt M3 (.nil _)) aN Tryz.func147
def gW:ay:=⟨[.val bR,.val .bool],[.val tI],fun x=>cL x.1 x.2.1⟩
noncomputable def Cr:Cx:=⟨tpr,[(146,mo),(147,vG)],[]⟩
theorem BD:aT Cr [] none Tryz.f102 gW:=by intro x;kernel_rfl
theorem rY:aq tpr 102:=aj Tryz.func102 rfl (by decide)
theorem sd:aD tpr 102 gW:=aJ BD (.cons CG Cy (.cons LU Lu (.nil _))) aN Tryz.func102
def KF:List (Nat×Ann):=[(3,⟨[(3,.val tI),(6,.val (.slice tI)),(7,.val tI),(8,.val tI)],[],[],aW _⟩),
 (200003,⟨[(3,.val tI)],[],[],fun _=>0⟩)]
def zf:ay:=⟨[.val (.slice tI)],[.val tI],fun x=>zA x.1⟩
noncomputable def O8:Cx:=⟨tpr,[],[]⟩
theorem MN:aT O8 KF none Tryz.f27 zf:=by intro x;kernel_rfl
theorem Py:aq tpr 27:=aj Tryz.func27 rfl (by decide)
theorem PE:aD tpr 27 zf:=aJ MN (.nil _) aN Tryz.func27
def jr:ay:=⟨[.val bA,.val bA],[.val tI],fun x=>fe x.1 x.2.1⟩
noncomputable def zB:Cx:=⟨tpr,[(27,zf),(28,iy)],[]⟩
theorem yL:aT zB [] none Tryz.f148 jr:=by intro x;kernel_rfl
theorem zH:aq tpr 148:=aj Tryz.func148 rfl (by decide)
theorem zN:aD tpr 148 jr:=aJ yL (.cons PE Py (.cons qm qd (.nil _))) aN Tryz.func148
def zy:List (Nat×Ann):=[(4,⟨[(0,.val (.slice bA)),(9,.val (.slice bA)),(10,.val tI),(11,.val tI)],[],[],aW _⟩),
 (200004,⟨[],[],[],fun _=>0⟩)]
def kK:ay:=⟨[.val (.slice bA)],[.val tI],fun x=>gf x.1⟩
noncomputable def BA:Cx:=⟨tpr,[(22,oI),(102,gW),(148,jr)],[]⟩
theorem Al:aT BA zy none Tryz.f103 kK:=by intro x;kernel_rfl
theorem BG:aq tpr 103:=aj Tryz.func103 rfl (by decide)
theorem BJ:aD tpr 103 kK:=aJ Al (.cons yV yQ (.cons sd rY (.cons zN zH (.nil _)))) aN Tryz.func103
def mX:ay:=⟨[.val (.slice bh),.val tI],[.val tI],fun x=>lG x.1 x.2.1⟩
noncomputable def De:Cx:=⟨tpr,[(101,rQ),(102,gW),(103,kK)],[]⟩
theorem Cv:aT De [] none Tryz.f54 mX:=by intro x;kernel_rfl
theorem Dp:aq tpr 54:=aj Tryz.func54 rfl (by decide)
theorem Dw:aD tpr 54 mX:=aJ Cv (.cons I1 IS (.cons sd rY (.cons BJ BG (.nil _)))) aN Tryz.func54
def nZ:ay:=⟨[.val bh,.val .str],[.val tI],fun x=>rL x.1 x.2.1⟩
noncomputable def D1:Cx:=⟨tpr,[(28,iy)],[]⟩
theorem Di:aT D1 [] none Tryz.f73 nZ:=by intro x;kernel_rfl
theorem Ej:aq tpr 73:=aj Tryz.func73 rfl (by decide)
theorem EC:aD tpr 73 nZ:=aJ Di (.cons qm qd (.nil _)) aN Tryz.func73
def kF:List (Nat×Ann):=[(3,⟨[(0,.val (.slice bh)),(1,.val .str),(2,.val (.clo 73 .unit)),(8,.val tI),(9,.val tI),(10,.val tI)],[],[],aW _⟩),
 (200003,⟨[(0,.val (.slice bh)),(1,.val .str),(2,.val (.clo 73 .unit)),(8,.val tI),(9,.val tI)],[],[],fun _=>0⟩)]
def dy:ay:=⟨[.val (.slice bh),.val .str,.val (.clo 73 .unit)],[.val tI,.val .bool],fun x=>cw x.1 x.2.1 x.2.2.1⟩
noncomputable def l6:Cx:=⟨tpr,[(73,nZ)],[]⟩
theorem kZ:aT l6 kF none Tryz.f72 dy:=by intro x;kernel_rfl
theorem l7:aq tpr 72:=aj Tryz.func72 rfl (by decide)
theorem me:aD tpr 72 dy:=aJ kZ (.cons EC Ej (.nil _)) aN Tryz.func72
def iu:ay:=⟨[.val bV,.val .str],[.val tI,.val .bool],fun x=>iK x.1 x.2.1⟩
noncomputable def Gx:Cx:=⟨tpr,[(72,dy)],[]⟩
theorem FE:aT Gx [] none Tryz.f33 iu:=by intro x;kernel_rfl
theorem qb:aq tpr 33:=aj Tryz.func33 rfl (by decide)
theorem qi:aD tpr 33 iu:=aJ FE (.cons me l7 (.nil _)) aN Tryz.func33
def F9:List (Nat×Ann):=[(3,⟨[(1,.val tI),(2,.ref 2 0),(6,.own 3 tI),(7,.val tI)],[(2,xZ)],[],aW _⟩),
 (200003,⟨[(6,.own 3 tI)],[],[],fun _=>0⟩)]
def nW:ay:=⟨[.val bV,.val tI],[.val (.slice tI),.val .bool],fun x=>iO x.1 x.2.1⟩
noncomputable def JT:Cx:=⟨tpr,[(33,iu),(47,fh)],[]⟩
theorem II:aT JT F9 none Tryz.f74 nW:=by intro x;kernel_rfl
theorem Av:aq tpr 74:=aj Tryz.func74 rfl (by decide)
theorem AI:aD tpr 74 nW:=aJ II (.cons qi qb (.cons mg l8 (.nil _))) aN Tryz.func74
def C5:List (Nat×Ann):=[(2,⟨[(1,.ref 1 0),(14,.val (.slice bh)),(15,.val tI),(16,.val tI)],[(1,xZ)],[],aW _⟩),
 (9,⟨[(1,.ref 1 0),(37,.val tI),(38,.val tI)],[(1,xZ)],[],aW _⟩),
 (16,⟨[(1,.ref 1 0),(52,.val tI),(53,.val tI)],[(1,xZ)],[],aW _⟩),
 (200002,⟨[(1,.ref 1 0)],[(1,xZ)],[],fun _=>0⟩),
 (200009,⟨[(1,.ref 1 0)],[(1,xZ)],[],fun _=>0⟩),
 (200016,⟨[],[],[],fun _=>0⟩)]
def pz:ay:=⟨[.val bV],[.val tI],fun x=>nN x.1⟩
noncomputable def Fx:Cx:=⟨tpr,[(33,iu),(74,nW)],[]⟩
theorem D4:aT Fx C5 none Tryz.f55 pz:=by intro x;kernel_rfl
theorem FK:aq tpr 55:=aj Tryz.func55 rfl (by decide)
theorem FN:aD tpr 55 pz:=aJ D4 (.cons qi qb (.cons AI Av (.nil _))) aN Tryz.func55
def Bz:List (Nat×Ann):=[(8,⟨[(1,.ref 1 0),(28,.val tI),(29,.val tI)],[(1,xZ)],[],aW _⟩),
 (200008,⟨[(1,.ref 1 0)],[(1,xZ)],[],fun _=>0⟩)]
def iM:ay:=⟨[.val bV],[.val tI],fun x=>iq x.1⟩
noncomputable def Dd:Cx:=⟨tpr,[(22,oI),(53,Bc),(54,mX),(55,pz)],[]⟩
theorem Cu:aT Dd Bz none Tryz.f21 iM:=by intro x;kernel_rfl
theorem uu:aq tpr 21:=aj Tryz.func21 rfl (by decide)
theorem uz:aD tpr 21 iM:=aJ Cu (.cons yV yQ (.cons RG Q9 (.cons Dw Dp (.cons FN FK (.nil _))))) aN Tryz.func21
def nY:ay:=⟨[.val bV,.val .str,.val .bool],[.val tI],fun x=>jc x.1 x.2.1 x.2.2.1⟩
noncomputable def DZ:Cx:=⟨tpr,[(21,iM),(33,iu)],[]⟩
theorem Dh:aT DZ [] none Tryz.f11 nY:=by intro x;kernel_rfl
theorem Ei:aq tpr 11:=aj Tryz.func11 rfl (by decide)
theorem EB:aD tpr 11 nY:=aJ Dh (.cons uz uu (.cons qi qb (.nil _))) aN Tryz.func11
def nX:ay:=⟨[.val tI,.val (.ptr bV),.val (.ptr .str)],[.val .bool],fun x=>rK x.1 x.2.1 x.2.2.1⟩
noncomputable def DY:Cx:=⟨tpr,[],[]⟩
theorem Df:aT DY [] none Tryz.f76 nX:=by intro x;kernel_rfl
theorem Eh:aq tpr 76:=aj Tryz.func76 rfl (by decide)
theorem EA:aD tpr 76 nX:=aJ Df (.nil _) aN Tryz.func76
def zz:List (Nat×Ann):=[(2,⟨[(0,.val (.slice tI)),(1,.val (.clo 76 (.pair (.ptr bV) (.ptr .str)))),(7,.val tI),(8,.val tI)],[],[],aW _⟩),
 (200002,⟨[],[],[],fun _=>0⟩)]
def kL:ay:=⟨[.val (.slice tI),.val (.clo 76 (.pair (.ptr bV) (.ptr .str)))],[.val tI],fun x=>nT x.1 x.2.1⟩
noncomputable def BB:Cx:=⟨tpr,[(76,nX)],[]⟩
theorem Am:aT BB zz none Tryz.f136 kL:=by intro x;kernel_rfl
theorem BH:aq tpr 136:=aj Tryz.func136 rfl (by decide)
theorem BK:aD tpr 136 kL:=aJ Am (.cons EA Eh (.nil _)) aN Tryz.func136
def iR:ay:=⟨[.val (.slice tI),.val (.clo 76 (.pair (.ptr bV) (.ptr .str)))],[.val .bool],fun x=>kI x.1 x.2.1⟩
noncomputable def yK:Cx:=⟨tpr,[(136,kL)],[]⟩
theorem x6:aT yK [] none Tryz.f75 iR:=by intro x;kernel_rfl
theorem yT:aq tpr 75:=aj Tryz.func75 rfl (by decide)
theorem yZ:aD tpr 75 iR:=aJ x6 (.cons BK BH (.nil _)) aN Tryz.func75
def qG:ay:=⟨[.val bV,.val tI,.val .str],[.val .bool],fun x=>pM x.1 x.2.1 x.2.2.1⟩
noncomputable def Gv:Cx:=⟨tpr,[(74,nW),(75,iR)],[]⟩
theorem FD:aT Gv [] none Tryz.f34 qG:=by intro x;kernel_rfl
theorem GS:aq tpr 34:=aj Tryz.func34 rfl (by decide)
theorem Hh:aD tpr 34 qG:=aJ FD (.cons AI Av (.cons yZ yT (.nil _))) aN Tryz.func34
def rO:ay:=⟨[.val bV,.val tI,.val .str],[.val .bool],fun x=>gM x.1 x.2.1 x.2.2.1⟩
noncomputable def Ix:Cx:=⟨tpr,[(34,qG)],[]⟩
theorem GF:aT Ix [] none Tryz.f12 rO:=by intro x;kernel_rfl
theorem IP:aq tpr 12:=aj Tryz.func12 rfl (by decide)
theorem IY:aD tpr 12 rO:=aJ GF (.cons Hh GS (.nil _)) aN Tryz.func12
def Gd:List (Nat×Ann):=[(1,⟨[(0,.val (.slice (.int .u32)))],[],[],aW _⟩),
 (200001,⟨[(0,.val (.slice (.int .u32)))],[],[],fun _=>0⟩)]
def jP:ay:=⟨[.val (.slice (.int .u32))],[.val (.slice (.int .u32))],fun x=>kU x.1⟩
noncomputable def JW:Cx:=⟨tpr,[],[]⟩
theorem IL:aT JW Gd none Tryz.f137 jP:=by intro x;kernel_rfl
theorem tC:aq tpr 137:=aj Tryz.func137 rfl (by decide)
theorem tH:aD tpr 137 jP:=aJ IL (.nil _) aN Tryz.func137
def iS:ay:=⟨[.val .bool,.val (.slice (.int .u32))],[.val aI],fun x=>fq x.1 x.2.1⟩
noncomputable def Ph:Cx:=⟨tpr,[(137,jP)],[]⟩
theorem MV:aT Ph [] none Tryz.f77 iS:=by intro x;kernel_rfl
theorem ox:aq tpr 77:=aj Tryz.func77 rfl (by decide)
theorem oz:aD tpr 77 iS:=aJ MV (.cons tH tC (.nil _)) aN Tryz.func77
end Go.Proofs.SeatU
end
