/-
  Each function that the law reaches is as its plain model says, a further part. No condition.
-/
import Derived.Test.YtnamfglkolhhgaaGreatDoorYw
set_option linter.all false
set_option maxRecDepth 100000
noncomputable section
namespace Go.Proofs.SeatU
open Go.Dn Go.Md Go.Proofs
def qa:List CK:=[.val .bool,.own 136 (.int .u32)]
def kY:List CK:=[.val .bool,.own 3 tI]
def Db:List CK:=[.val .bool,.rowR 24]
def gZ:List CK:=[.val .bool,.val (.slice (.int .u32))]
def Aj:List CK:=[.val .bool,.val (.slice tI)]
def Qw:List CK:=[.val .str,.val .str,.val tI,.val (.slice bh)]
def O2:List (Nat×Ann):=[(100003,⟨[(0,.val tI),(2,.ref 2 0),(3,.val (.int .u64))],[(2,qa)],[],fun _=>0⟩)]
def mu:ay:=⟨[.val tI],[.val aI],fun x=>mw x.1⟩
noncomputable def SN:Cx:=⟨tpr,[(77,iS)],[]⟩
theorem QZ:aT SN O2 none Tryz.f35 mu:=by intro x;kernel_rfl
theorem rZ:aq tpr 35:=aj Tryz.func35 rfl (by decide)
theorem se:aD tpr 35 mu:=aJ QZ (.cons oz ox (.nil _)) aN Tryz.func35
def DW:List (Nat×Ann):=[(3,⟨[(2,.ref 2 0),(3,.ref 3 0),(4,.ref 4 0),(5,.rowR 18),(20,.val (.slice (.int .u32))),(21,.val tI),(22,.val tI)],[(2,gZ),(3,gZ),(4,qa)],[.rowC 18 136 (.int .u32)],aW _⟩),
 (7,⟨[(2,.ref 2 0),(3,.ref 3 0),(4,.ref 4 0),(5,.rowR 18),(6,.val tI),(7,.val (.int .u32)),(8,.val (.int .u64)),(20,.val (.slice (.int .u32))),(21,.val tI),(22,.val tI),(28,.val (.slice (.int .u32))),(29,.val tI),(30,.val tI)],[(2,gZ),(3,gZ),(4,qa)],[.rowC 18 136 (.int .u32)],aW _⟩),
 (200003,⟨[(2,.ref 2 0),(3,.ref 3 0),(4,.ref 4 0),(5,.rowR 18)],[(2,gZ),(3,gZ),(4,qa)],[.rowC 18 136 (.int .u32)],fun _=>0⟩),
 (200007,⟨[(2,.ref 2 0),(3,.ref 3 0),(4,.ref 4 0),(5,.rowR 18),(6,.val tI),(8,.val (.int .u64)),(20,.val (.slice (.int .u32))),(21,.val tI),(22,.val tI)],[(2,gZ),(3,gZ),(4,qa)],[.rowC 18 136 (.int .u32)],fun _=>0⟩)]
def lV:ay:=⟨[.val aI,.val aI],[.val aI],fun x=>lW x.1 x.2.1⟩
noncomputable def GB:Cx:=⟨tpr,[(77,iS)],[]⟩
theorem FI:aT GB DW none Tryz.f81 lV:=by intro x;kernel_rfl
theorem x9:aq tpr 81:=aj Tryz.func81 rfl (by decide)
theorem yl:aD tpr 81 lV:=aJ FI (.cons oz ox (.nil _)) aN Tryz.func81
def JL:List (Nat×Ann):=[(3,⟨[(2,.ref 2 0),(3,.ref 3 0),(5,.val tI),(6,.val tI)],[(2,qa),(3,gZ)],[],aW _⟩),
 (200003,⟨[(2,.ref 2 0),(3,.ref 3 0)],[(2,qa),(3,gZ)],[],fun _=>0⟩)]
def wY:ay:=⟨[.val tI],[.val aI],fun x=>xV x.1⟩
noncomputable def ML:Cx:=⟨tpr,[(35,mu),(81,lV)],[]⟩
theorem Lb:aT ML JL none Tryz.f82 wY:=by intro x;kernel_rfl
theorem Nb:aq tpr 82:=aj Tryz.func82 rfl (by decide)
theorem NB:aD tpr 82 wY:=aJ Lb (.cons se rZ (.cons yl x9 (.nil _))) aN Tryz.func82
def nU:ay:=⟨[.val bR,.val tI],[.val aI],fun x=>ew x.1 x.2.1⟩
noncomputable def JQ:Cx:=⟨tpr,[(35,mu),(81,lV),(82,wY)],[]⟩
theorem IE:aT JQ [] none Tryz.f37 nU:=by intro x;kernel_rfl
theorem Ar:aq tpr 37:=aj Tryz.func37 rfl (by decide)
theorem AF:aD tpr 37 nU:=aJ IE (.cons se rZ (.cons yl x9 (.cons NB Nb (.nil _)))) aN Tryz.func37
def Mx:List (Nat×Ann):=[(6,⟨[(1,.val (.slice (.int .u32))),(5,.own 136 (.int .u32)),(6,.val (.int .u64)),(20,.val (.slice (.int .u32))),(21,.val tI),(22,.val tI)],[],[],aW _⟩),
 (100002,⟨[(0,.val (.slice (.int .u32))),(1,.val (.slice (.int .u32)))],[],[],fun _=>0⟩),
 (100010,⟨[(1,.val (.slice (.int .u32))),(5,.own 136 (.int .u32)),(6,.val (.int .u64)),(20,.val (.slice (.int .u32))),(21,.val tI),(22,.val tI)],[],[],fun _=>0⟩),
 (200006,⟨[(5,.own 136 (.int .u32)),(6,.val (.int .u64))],[],[],fun _=>0⟩)]
def Bl:ay:=⟨[.val (.slice (.int .u32)),.val (.slice (.int .u32))],[.row 136 (.int .u32)],fun x=>yD x.1 x.2.1⟩
noncomputable def QK:Cx:=⟨tpr,[],[]⟩
theorem Px:aT QK Mx none Tryz.f78 Bl:=by intro x;kernel_rfl
theorem Rk:aq tpr 78:=aj Tryz.func78 rfl (by decide)
theorem RU:aD tpr 78 Bl:=aJ Px (.nil _) aN Tryz.func78
def JM:List (Nat×Ann):=[(6,⟨[(1,.val (.slice (.int .u32))),(5,.own 136 (.int .u32)),(6,.val (.int .u64)),(20,.val (.slice (.int .u32))),(21,.val tI),(22,.val tI)],[],[],aW _⟩),
 (100002,⟨[(0,.val (.slice (.int .u32))),(1,.val (.slice (.int .u32)))],[],[],fun _=>0⟩),
 (100010,⟨[(1,.val (.slice (.int .u32))),(5,.own 136 (.int .u32)),(6,.val (.int .u64)),(20,.val (.slice (.int .u32))),(21,.val tI),(22,.val tI)],[],[],fun _=>0⟩),
 (200006,⟨[(5,.own 136 (.int .u32)),(6,.val (.int .u64))],[],[],fun _=>0⟩)]
def wZ:ay:=⟨[.val (.slice (.int .u32)),.val (.slice (.int .u32))],[.val (.slice (.int .u32))],fun x=>C1 x.1 x.2.1⟩
noncomputable def MM:Cx:=⟨tpr,[],[]⟩
theorem Lc:aT MM JM none Tryz.f78 wZ:=by intro x;kernel_rfl
theorem Nc:aq tpr 78:=aj Tryz.func78 rfl (by decide)
theorem NC:aD tpr 78 wZ:=aJ Lc (.nil _) aN Tryz.func78
def Gc:List (Nat×Ann):=[(4,⟨[(0,.val (.slice (.int .u32))),(1,.val (.slice (.int .u32))),(5,.val tI)],[],[],aW _⟩),
 (200004,⟨[],[],[],fun _=>0⟩)]
def oa:ay:=⟨[.val (.slice (.int .u32)),.val (.slice (.int .u32))],[.val tI],fun x=>oM x.1 x.2.1⟩
noncomputable def JV:Cx:=⟨tpr,[],[]⟩
theorem IK:aT JV Gc none Tryz.f79 oa:=by intro x;kernel_rfl
theorem Az:aq tpr 79:=aj Tryz.func79 rfl (by decide)
theorem AM:aD tpr 79 oa:=aJ IK (.nil _) aN Tryz.func79
def KK:List (Nat×Ann):=[(4,⟨[(1,.val (.slice (.int .u32))),(5,.own 136 (.int .u32)),(6,.val (.int .u64)),(13,.val (.slice (.int .u32))),(14,.val tI),(15,.val tI)],[],[],aW _⟩),
 (100008,⟨[(1,.val (.slice (.int .u32))),(5,.own 136 (.int .u32)),(9,.val (.int .u64)),(13,.val (.slice (.int .u32))),(14,.val tI),(15,.val tI)],[],[],fun _=>0⟩),
 (200004,⟨[(5,.own 136 (.int .u32))],[],[],fun _=>0⟩)]
def s8:ay:=⟨[.val (.slice (.int .u32)),.val (.slice (.int .u32))],[.val (.slice (.int .u32))],fun x=>rI x.1 x.2.1⟩
noncomputable def Pg:Cx:=⟨tpr,[(137,jP)],[]⟩
theorem MU:aT Pg KK none Tryz.f80 s8:=by intro x;kernel_rfl
theorem Fj:aq tpr 80:=aj Tryz.func80 rfl (by decide)
theorem Fm:aD tpr 80 s8:=aJ MU (.cons tH tC (.nil _)) aN Tryz.func80
def mD:ay:=⟨[.val aI,.val aI],[.val aI],fun x=>eD x.1 x.2.1⟩
noncomputable def IB:Cx:=⟨tpr,[(77,iS),(78,wZ),(79,oa),(80,s8)],[]⟩
theorem GJ:aT IB [] none Tryz.f36 mD:=by intro x;kernel_rfl
theorem zk:aq tpr 36:=aj Tryz.func36 rfl (by decide)
theorem zm:aD tpr 36 mD:=aJ GJ (.cons oz ox (.cons NC Nc (.cons AM Az (.cons Fm Fj (.nil _))))) aN Tryz.func36
def jO:ay:=⟨[.map aG aI,.val aG,.val bR],[],fun x=>iL x.1 x.2.1 x.2.2.1⟩
noncomputable def Ak:Cx:=⟨tpr,[(35,mu),(36,mD),(37,nU)],[]⟩
theorem zF:aT Ak [] none Tryz.f13 jO:=by intro x;kernel_rfl
theorem Aw:aq tpr 13:=aj Tryz.func13 rfl (by decide)
theorem AJ:aD tpr 13 jO:=aJ zF (.cons se rZ (.cons zm zk (.cons AF Ar (.nil _)))) aN Tryz.func13
def Iu:List (Nat×Ann):=[(4,⟨[(2,.ref 2 0),(3,.ref 3 0),(4,.ref 4 0),(5,.ref 5 0),(6,.rowR 12),(7,.val (.slice (.int .u32))),(8,.val tI)],[(2,gZ),(3,gZ),(4,qa),(5,qa)],[.rowC 12 136 (.int .u32)],aW _⟩),
 (200004,⟨[(4,.ref 4 0),(5,.ref 5 0),(6,.rowR 12),(7,.val (.slice (.int .u32)))],[(4,qa),(5,qa)],[.rowC 12 136 (.int .u32)],fun _=>0⟩)]
def vO:ay:=⟨[.val aI,.val aI],[.val aI,.val aI],fun x=>qO x.1 x.2.1⟩
noncomputable def KX:Cx:=⟨tpr,[(77,iS),(78,Bl),(79,oa),(80,s8),(137,jP)],[]⟩
theorem J3:aT KX Iu none Tryz.f115 vO:=by intro x;kernel_rfl
theorem Ly:aq tpr 115:=aj Tryz.func115 rfl (by decide)
theorem LY:aD tpr 115 vO:=aJ J3 (.cons oz ox (.cons RU Rk (.cons AM Az (.cons Fm Fj (.cons tH tC (.nil _)))))) aN Tryz.func115
def rT:ay:=⟨[.val aI],[.val tI],fun x=>jF x.1⟩
noncomputable def IC:Cx:=⟨tpr,[],[]⟩
theorem GK:aT IC [] none Tryz.f116 rT:=by intro x;kernel_rfl
theorem IV:aq tpr 116:=aj Tryz.func116 rfl (by decide)
theorem I4:aD tpr 116 rT:=aJ GK (.nil _) aN Tryz.func116
def qJ:ay:=⟨[.val aI],[.val aI],fun x=>pY x.1⟩
noncomputable def GA:Cx:=⟨tpr,[(77,iS)],[]⟩
theorem FH:aT GA [] none Tryz.f117 qJ:=by intro x;kernel_rfl
theorem GW:aq tpr 117:=aj Tryz.func117 rfl (by decide)
theorem Hl:aD tpr 117 qJ:=aJ FH (.cons oz ox (.nil _)) aN Tryz.func117
def Ga:List (Nat×Ann):=[(5,⟨[(1,.val tI),(2,.ref 2 0),(6,.val (.int .u64)),(14,.val (.slice (.int .u32))),(15,.val tI),(16,.val tI)],[(2,gZ)],[],aW _⟩),
 (200005,⟨[(1,.val tI),(2,.ref 2 0),(6,.val (.int .u64))],[(2,gZ)],[],fun _=>0⟩)]
def tX:ay:=⟨[.val aI,.val tI],[.val tI,.val .bool],fun x=>td x.1 x.2.1⟩
noncomputable def JU:Cx:=⟨tpr,[],[]⟩
theorem IJ:aT JU Ga none Tryz.f163 tX:=by intro x;kernel_rfl
theorem Kc:aq tpr 163:=aj Tryz.func163 rfl (by decide)
theorem Kl:aD tpr 163 tX:=aJ IJ (.nil _) aN Tryz.func163
def wP:ay:=⟨[.val aI,.val tI],[.val bR,.val tI],fun x=>rX x.1 x.2.1⟩
noncomputable def MA:Cx:=⟨tpr,[(163,tX)],[]⟩
theorem K0:aT MA [] none Tryz.f118 wP:=by intro x;kernel_rfl
theorem MZ:aq tpr 118:=aj Tryz.func118 rfl (by decide)
theorem Nr:aD tpr 118 wP:=aJ K0 (.cons Kl Kc (.nil _)) aN Tryz.func118
def F7:List (Nat×Ann):=[(2,⟨[(1,.val tI),(2,.ref 2 0),(4,.ref 4 0),(6,.ref 6 0)],[(2,gZ),(4,[.val tI,.val tI]),(6,gZ)],[],aW _⟩),
 (200002,⟨[(1,.val tI),(2,.ref 2 0),(4,.ref 4 0)],[(2,gZ),(4,[.val tI,.val tI])],[],fun _=>0⟩)]
def tT:ay:=⟨[.val aI,.val tI],[.val bR,.val tI],fun x=>sE x.1 x.2.1⟩
noncomputable def JP:Cx:=⟨tpr,[(35,mu),(115,vO),(116,rT),(117,qJ),(118,wP)],[]⟩
theorem ID:aT JP F7 none Tryz.f61 tT:=by intro x;kernel_rfl
theorem J8:aq tpr 61:=aj Tryz.func61 rfl (by decide)
theorem Kh:aD tpr 61 tT:=aJ ID (.cons se rZ (.cons LY Ly (.cons I4 IV (.cons Hl GW (.cons Nr MZ (.nil _)))))) aN Tryz.func61
def rG:ay:=⟨[.val aI],[.val bR,.val tI],fun x=>sj x.1⟩
noncomputable def MG:Cx:=⟨tpr,[(61,tT)],[]⟩
theorem K6:aT MG [] none Tryz.f29 rG:=by intro x;kernel_rfl
theorem Dq:aq tpr 29:=aj Tryz.func29 rfl (by decide)
theorem Dx:aD tpr 29 rG:=aJ K6 (.cons Kh J8 (.nil _)) aN Tryz.func29
def Fu:List (Nat×Ann):=[(4,⟨[(0,.mapR 10250000),(4,.own 33 bT),(13,.rowR 12),(14,.val tI),(15,.val tI)],[],[.rowC 12 53 aG,.mapC 10250000 aG aI],aW _⟩),
 (200004,⟨[(4,.own 33 bT)],[],[.mapC 10250000 aG aI],fun _=>0⟩)]
def rP:ay:=⟨[.map aG aI],[.row 33 bT,.val tI],fun x=>rm x.1⟩
noncomputable def Iy:Cx:=⟨tpr,[(29,rG)],[(38,VZ),(39,V0)]⟩
theorem GG:aT Iy Fu none Tryz.f14 rP:=by intro x;kernel_rfl
theorem IQ:aq tpr 14:=aj Tryz.func14 rfl (by decide)
theorem IZ:aD tpr 14 rP:=aJ GG (.PZ YE YA (.PZ YF YB (.cons Dx Dq (.nil _)))) aN Tryz.func14
def F8:List (Nat×Ann):=[(6,⟨[(1,.val .str),(2,.ref 2 0),(7,.mapR 18),(20,.val (.slice bh)),(21,.val tI),(22,.val tI)],[(2,Qw)],[.mapC 18 aG aI],aW _⟩),
 (10,⟨[(1,.val .str),(2,.ref 2 0),(7,.mapR 18),(20,.val (.slice bh)),(21,.val tI),(22,.val tI),(33,.val (.slice bA)),(34,.val tI),(35,.val tI)],[(2,Qw)],[.mapC 18 aG aI],aW _⟩),
 (200006,⟨[(7,.mapR 18)],[],[.mapC 18 aG aI],fun _=>0⟩),
 (200010,⟨[(1,.val .str),(2,.ref 2 0),(7,.mapR 18),(20,.val (.slice bh)),(21,.val tI),(22,.val tI)],[(2,Qw)],[.mapC 18 aG aI],fun _=>0⟩)]
def tV:ay:=⟨[.val bV,.val .str],[.val (.slice bT),.val tI],fun x=>sO x.1 x.2.1⟩
noncomputable def JS:Cx:=⟨tpr,[(11,nY),(12,rO),(13,jO),(14,rP)],[]⟩
theorem IG:aT JS F8 none Tryz.f4 tV:=by intro x;kernel_rfl
theorem Kb:aq tpr 4:=aj Tryz.func4 rfl (by decide)
theorem Kk:aD tpr 4 tV:=aJ IG (.cons EB Ei (.cons IY IP (.cons AJ Aw (.cons IZ IQ (.nil _))))) aN Tryz.func4
def Mv:List (Nat×Ann):=[(4,⟨[(0,.val .str),(23,.val tI),(24,.val tI)],[],[],aW _⟩),
 (200004,⟨[],[],[],fun _=>0⟩)]
def Bj:ay:=⟨[.val .str],[.val .bool],fun x=>HE x.1⟩
noncomputable def QH:Cx:=⟨tpr,[],[]⟩
theorem Pu:aT QH Mv none Tryz.f62 Bj:=by intro x;kernel_rfl
theorem Rh:aq tpr 62:=aj Tryz.func62 rfl (by decide)
theorem RP:aD tpr 62 Bj:=aJ Pu (.nil _) aN Tryz.func62
def qI:ay:=⟨[.val .str],[.val .bool],fun x=>lR x.1⟩
noncomputable def QF:Cx:=⟨tpr,[(62,Bj)],[]⟩
theorem Pq:aT QF [] none Tryz.f30 qI:=by intro x;kernel_rfl
theorem Ax:aq tpr 30:=aj Tryz.func30 rfl (by decide)
theorem AK:aD tpr 30 qI:=aJ Pq (.cons RP Rh (.nil _)) aN Tryz.func30
def mY:ay:=⟨[.val tI,.val tI,.val tI],[.val .bool],fun x=>nr x.1 x.2.1 x.2.2.1⟩
noncomputable def QJ:Cx:=⟨tpr,[],[]⟩
theorem Pw:aT QJ [] none Tryz.f140 mY:=by intro x;kernel_rfl
theorem uW:aq tpr 140:=aj Tryz.func140 rfl (by decide)
theorem u5:aD tpr 140 mY:=aJ Pw (.nil _) aN Tryz.func140
def CZ:ay:=⟨[.val tI],[.val .bool],fun x=>Kt x.1⟩
noncomputable def SL:Cx:=⟨tpr,[(140,mY)],[]⟩
theorem QX:aT SL [] none Tryz.f86 CZ:=by intro x;kernel_rfl
theorem Td:aq tpr 86:=aj Tryz.func86 rfl (by decide)
theorem To:aD tpr 86 CZ:=aJ QX (.cons u5 uW (.nil _)) aN Tryz.func86
def CU:ay:=⟨[.val tI],[.val .bool],fun x=>EP x.1⟩
noncomputable def SF:Cx:=⟨tpr,[(86,CZ)],[]⟩
theorem QS:aT SF [] none Tryz.f41 CU:=by intro x;kernel_rfl
theorem S9:aq tpr 41:=aj Tryz.func41 rfl (by decide)
theorem Tk:aD tpr 41 CU:=aJ QS (.cons To Td (.nil _)) aN Tryz.func41
def Bi:ay:=⟨[.val tI],[.val .bool],fun x=>HD x.1⟩
noncomputable def QG:Cx:=⟨tpr,[(140,mY)],[]⟩
theorem Pt:aT QG [] none Tryz.f141 Bi:=by intro x;kernel_rfl
theorem Rg:aq tpr 141:=aj Tryz.func141 rfl (by decide)
theorem RO:aD tpr 141 Bi:=aJ Pt (.cons u5 uW (.nil _)) aN Tryz.func141
def JK:List (Nat×Ann):=[(4,⟨[(0,.val .str),(7,.val tI),(8,.val tI)],[],[],aW _⟩),
 (200004,⟨[],[],[],fun _=>0⟩)]
def wW:ay:=⟨[.val .str],[.val .bool],fun x=>jC x.1⟩
noncomputable def MJ:Cx:=⟨tpr,[],[]⟩
theorem K9:aT MJ JK none Tryz.f184 wW:=by intro x;kernel_rfl
theorem M8:aq tpr 184:=aj Tryz.func184 rfl (by decide)
theorem Ny:aD tpr 184 wW:=aJ K9 (.nil _) aN Tryz.func184
def Mw:List (Nat×Ann):=[(3,⟨[(0,.val .str),(3,.val tI),(7,.val tI),(8,.val tI)],[],[],aW _⟩),
 (200003,⟨[(3,.val tI)],[],[],fun _=>0⟩)]
def Bk:ay:=⟨[.val .str],[.val .bool],fun x=>nq x.1⟩
noncomputable def QI:Cx:=⟨tpr,[],[]⟩
theorem Pv:aT QI Mw none Tryz.f185 Bk:=by intro x;kernel_rfl
theorem Ri:aq tpr 185:=aj Tryz.func185 rfl (by decide)
theorem RQ:aD tpr 185 Bk:=aJ Pv (.nil _) aN Tryz.func185
def wX:ay:=⟨[.val tI,.val .str],[.val .bool],fun x=>CR x.1 x.2.1⟩
noncomputable def MK:Cx:=⟨tpr,[(140,mY),(184,wW),(185,Bk),(186,Cf),(187,Cg),(188,HL),(189,DL)],[]⟩
theorem La:aT MK [] none Tryz.f142 wX:=by intro x;kernel_rfl
theorem M9:aq tpr 142:=aj Tryz.func142 rfl (by decide)
theorem Nz:aD tpr 142 wX:=aJ La (.cons u5 uW (.cons Ny M8 (.cons RQ Ri (.cons LV Lv (.cons LW Lw (.cons RR Rj (.cons NA Na (.nil _)))))))) aN Tryz.func142
def wV:ay:=⟨[.val tI,.val .str],[.val .bool,.val tI],fun x=>CO x.1 x.2.1⟩
noncomputable def MI:Cx:=⟨tpr,[(141,Bi),(142,wX)],[]⟩
theorem K8:aT MI [] none Tryz.f87 wV:=by intro x;kernel_rfl
theorem M7:aq tpr 87:=aj Tryz.func87 rfl (by decide)
theorem Nx:aD tpr 87 wV:=aJ K8 (.cons RO Rg (.cons Nz M9 (.nil _))) aN Tryz.func87
def wU:ay:=⟨[.val .str],[.val .bool],fun x=>xE x.1⟩
noncomputable def MH:Cx:=⟨tpr,[(87,wV)],[]⟩
theorem K7:aT MH [] none Tryz.f42 wU:=by intro x;kernel_rfl
theorem M6:aq tpr 42:=aj Tryz.func42 rfl (by decide)
theorem Nw:aD tpr 42 wU:=aJ K7 (.cons Nx M7 (.nil _)) aN Tryz.func42
def qH:ay:=⟨[.val bR],[.val tI],fun x=>lQ x.1⟩
noncomputable def Gz:Cx:=⟨tpr,[(140,mY)],[]⟩
theorem FG:aT Gz [] none Tryz.f88 qH:=by intro x;kernel_rfl
theorem GV:aq tpr 88:=aj Tryz.func88 rfl (by decide)
theorem Hj:aD tpr 88 qH:=aJ FG (.cons u5 uW (.nil _)) aN Tryz.func88
def Us:List (Nat×Ann):=[(2,⟨[(0,.val tI),(2,.ref 2 0),(3,.ref 3 0)],[(2,kY),(3,kY)],[],aW _⟩),
 (200002,⟨[(2,.ref 2 0),(3,.ref 3 0)],[(2,kY),(3,kY)],[],fun _=>0⟩)]
def tW:ay:=⟨[.val tI],[.val av],fun x=>vo x.1⟩
noncomputable def WQ:Cx:=⟨tpr,[],[]⟩
theorem VI:aT WQ Us none Tryz.f64 tW:=by intro x;kernel_rfl
theorem Ay:aq tpr 64:=aj Tryz.func64 rfl (by decide)
theorem AL:aD tpr 64 tW:=aJ VI (.nil _) aN Tryz.func64
def KJ:List (Nat×Ann):=[(1,⟨[(1,.ref 1 0),(2,.ref 2 0)],[(1,Aj),(2,kY)],[],aW _⟩),
 (200001,⟨[(1,.ref 1 0),(2,.ref 2 0)],[(1,Aj),(2,kY)],[],fun _=>0⟩)]
def oL:ay:=⟨[.val av],[.val av],fun x=>jq x.1⟩
noncomputable def Pf:Cx:=⟨tpr,[],[]⟩
theorem MT:aT Pf KJ none Tryz.f98 oL:=by intro x;kernel_rfl
theorem yS:aq tpr 98:=aj Tryz.func98 rfl (by decide)
theorem yY:aD tpr 98 oL:=aJ MT (.nil _) aN Tryz.func98
def KI:List (Nat×Ann):=[(3,⟨[(3,.ref 3 0),(4,.ref 4 0),(5,.ref 5 0),(27,.val (.slice tI)),(28,.val tI),(29,.val tI)],[(3,Aj),(4,kY),(5,Db)],[.rowC 24 3 tI],aW _⟩),
 (6,⟨[(3,.ref 3 0),(4,.ref 4 0),(5,.ref 5 0),(6,.val tI),(7,.val tI),(27,.val (.slice tI)),(28,.val tI),(29,.val tI),(35,.val (.slice tI)),(36,.val tI),(37,.val tI)],[(3,Aj),(4,kY),(5,Db)],[.rowC 24 3 tI],aW _⟩),
 (14,⟨[(4,.ref 4 0),(5,.ref 5 0),(86,.val tI),(87,.val tI)],[(4,kY),(5,Db)],[.rowC 24 3 tI],aW _⟩),
 (200003,⟨[(4,.ref 4 0),(5,.ref 5 0)],[(4,kY),(5,Db)],[.rowC 24 3 tI],fun _=>0⟩),
 (200006,⟨[(3,.ref 3 0),(4,.ref 4 0),(5,.ref 5 0),(27,.val (.slice tI)),(28,.val tI),(29,.val tI)],[(3,Aj),(4,kY),(5,Db)],[.rowC 24 3 tI],fun _=>0⟩),
 (200014,⟨[(4,.ref 4 0),(5,.ref 5 0)],[(4,kY),(5,Db)],[.rowC 24 3 tI],fun _=>0⟩)]
def oK:ay:=⟨[.val av,.val av],[.val av],fun x=>lS x.1 x.2.1⟩
noncomputable def Pe:Cx:=⟨tpr,[(98,oL)],[]⟩
theorem MS:aT Pe KI none Tryz.f99 oK:=by intro x;kernel_rfl
theorem yR:aq tpr 99:=aj Tryz.func99 rfl (by decide)
theorem yX:aD tpr 99 oK:=aJ MS (.cons yY yS (.nil _)) aN Tryz.func99
def OZ:List (Nat×Ann):=[(3,⟨[(2,.ref 2 0),(3,.ref 3 0),(5,.val tI),(6,.val tI)],[(2,kY),(3,Aj)],[],aW _⟩),
 (200003,⟨[(2,.ref 2 0),(3,.ref 3 0)],[(2,kY),(3,Aj)],[],fun _=>0⟩)]
def CW:ay:=⟨[.val tI],[.val av],fun x=>A0 x.1⟩
noncomputable def SH:Cx:=⟨tpr,[(64,tW),(99,oK)],[]⟩
theorem QU:aT SH OZ none Tryz.f100 CW:=by intro x;kernel_rfl
theorem Ta:aq tpr 100:=aj Tryz.func100 rfl (by decide)
theorem Tl:aD tpr 100 CW:=aJ QU (.cons AL Ay (.cons yX yR (.nil _))) aN Tryz.func100
end Go.Proofs.SeatU
end
