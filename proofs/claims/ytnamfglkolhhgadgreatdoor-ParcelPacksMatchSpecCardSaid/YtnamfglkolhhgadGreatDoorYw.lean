/-
  Each function that the law reaches is as its plain model says. No condition.
-/
import Derived.Test.YtnamfglkolhhgadGreatDoorYv
set_option linter.all false
set_option maxRecDepth 100000
noncomputable section
namespace Go.Proofs
abbrev tpr:=Tryz.prog
end Go.Proofs
namespace Go.Proofs.SeatU
open Go.Dn Go.Md Go.Proofs
theorem aI:Tryz.prog.follows .mixedOrders=true:=by kernel_rfl
def aQ (X:Cx) (anns:List (Nat×Ann)) (ar:Option Ty) (fn:Func) (sp:aA):Prop:=∀ x,Pn X anns ar fn sp x=sp.m x
theorem aH {X:Cx} {anns:List (Nat×Ann)} {ar:Option Ty} {fn:Func} {sp:aA} (h:aQ X anns ar fn sp) (hX:cC X) (hm:X.P.follows .mixedOrders=true) {f:FuncId} (hf:X.P.funcs[f]? =some fn):aF X.P f sp:=ab6 hX hm sp anns ar hf fun x _ e=>(h x).trans e
def EL:List CK:=[.val .bool,.own 146 (.int .u32)]
def xX:List CK:=[.val .bool,.val (.slice (.int .u32))]
def O0:List (Nat×Ann):=[(2,⟨[(0,.val .str),(1,.val (.int .u8)),(2,.val (.int .u8)),(9,.val tI),(10,.val tI)],[],[],aO _⟩),
 (200002,⟨[],[],[],fun _=>0⟩)]
def Cf:aA:=⟨[.val .str,.val (.int .u8),.val (.int .u8)],[.val .bool],fun x=>Hl x.1 x.2.1 x.2.2.1⟩
noncomputable def SL:Cx:=⟨tpr,[],[]⟩
theorem QS:aQ SL O0 none Tryz.f122 Cf:=by intro x;kernel_rfl
theorem To:ay tpr 122:=au Tryz.func122 rfl (by decide)
theorem TQ:aF tpr 122 Cf:=aH QS (.nil _) aI Tryz.func122
def uX:aA:=⟨[.val .str],[.val .bool],fun x=>vu x.1⟩
noncomputable def QF:Cx:=⟨tpr,[(122,Cf)],[]⟩
theorem Pq:aQ QF [] none Tryz.f55 uX:=by intro x;kernel_rfl
theorem Gn:ay tpr 55:=au Tryz.func55 rfl (by decide)
theorem Gy:aF tpr 55 uX:=aH Pq (.cons TQ To (.nil _)) aI Tryz.func55
def O3:List (Nat×Ann):=[(5,⟨[(4,.val tI),(15,.val tI),(16,.val tI)],[],[],aO _⟩),
 (200005,⟨[(4,.val tI)],[],[],fun _=>0⟩)]
def xu:aA:=⟨[.val .str],[.val tI,.val .bool],fun x=>yb x.1⟩
noncomputable def SQ:Cx:=⟨tpr,[(55,uX)],[]⟩
theorem QW:aQ SQ O3 none Tryz.f12 xu:=by intro x;kernel_rfl
theorem Im:ay tpr 12:=au Tryz.func12 rfl (by decide)
theorem Iz:aF tpr 12 xu:=aH QW (.cons Gy Gn (.nil _)) aI Tryz.func12
def nr:aA:=⟨[.val tI,.val tI,.val tI],[.val .bool],fun x=>nc x.1 x.2.1 x.2.2.1⟩
noncomputable def SM:Cx:=⟨tpr,[],[]⟩
theorem QT:aQ SM [] none Tryz.f13 nr:=by intro x;kernel_rfl
theorem wM:ay tpr 13:=au Tryz.func13 rfl (by decide)
theorem wS:aF tpr 13 nr:=aH QT (.nil _) aI Tryz.func13
def sM:aA:=⟨[.val tI],[.val .bool],fun x=>kI x.1⟩
noncomputable def Pe:Cx:=⟨tpr,[(13,nr)],[]⟩
theorem N2:aQ Pe [] none Tryz.f57 sM:=by intro x;kernel_rfl
theorem EW:ay tpr 57:=au Tryz.func57 rfl (by decide)
theorem E5:aF tpr 57 sM:=aH N2 (.cons wS wM (.nil _)) aI Tryz.func57
def xK:aA:=⟨[.val tI],[.val (.slice tI)],fun x=>BO x.1⟩
noncomputable def NO:Cx:=⟨tpr,[],[]⟩
theorem LW:aQ NO [] none Tryz.f128 xK:=by intro x;kernel_rfl
theorem N9:ay tpr 128:=au Tryz.func128 rfl (by decide)
theorem Oh:aF tpr 128 xK:=aH LW (.nil _) aI Tryz.func128
def HO:List (Nat×Ann):=[(2,⟨[(0,.val (.slice tI)),(1,.val tI),(7,.val tI),(8,.val tI)],[],[],aO _⟩),
 (200002,⟨[],[],[],fun _=>0⟩)]
def uF:aA:=⟨[.val (.slice tI),.val tI],[.val tI],fun x=>zD x.1 x.2.1⟩
noncomputable def KO:Cx:=⟨tpr,[],[]⟩
theorem Jf:aQ KO HO none Tryz.f184 uF:=by intro x;kernel_rfl
theorem K2:ay tpr 184:=au Tryz.func184 rfl (by decide)
theorem K6:aF tpr 184 uF:=aH Jf (.nil _) aI Tryz.func184
def lS:aA:=⟨[.val (.slice tI),.val tI],[.val .bool],fun x=>kZ x.1 x.2.1⟩
noncomputable def G7:Cx:=⟨tpr,[(184,uF)],[]⟩
theorem Ga:aQ G7 [] none Tryz.f127 lS:=by intro x;kernel_rfl
theorem x6:ay tpr 127:=au Tryz.func127 rfl (by decide)
theorem x9:aF tpr 127 lS:=aH Ga (.cons K6 K2 (.nil _)) aI Tryz.func127
def NI:List (Nat×Ann):=[(3,⟨[(0,.val .str),(3,.val tI),(7,.val tI),(8,.val tI)],[],[],aO _⟩),
 (200003,⟨[(3,.val tI)],[],[],fun _=>0⟩)]
def Bo:aA:=⟨[.val .str],[.val .bool],fun x=>EI x.1⟩
noncomputable def QE:Cx:=⟨tpr,[],[]⟩
theorem Pp:aQ QE NI none Tryz.f129 Bo:=by intro x;kernel_rfl
theorem Rn:ay tpr 129:=au Tryz.func129 rfl (by decide)
theorem RL:aF tpr 129 Bo:=aH Pp (.nil _) aI Tryz.func129
def pR:aA:=⟨[.val tI,.val .str],[.val .bool],fun x=>me x.1 x.2.1⟩
noncomputable def LK:Cx:=⟨tpr,[(55,uX),(61,zG),(126,GO),(127,lS),(128,xK),(129,Bo)],[]⟩
theorem KQ:aQ LK [] none Tryz.f62 pR:=by intro x;kernel_rfl
theorem C8:ay tpr 62:=au Tryz.func62 rfl (by decide)
theorem Dp:aF tpr 62 pR:=aH KQ (.cons Gy Gn (.cons E4 EV (.cons RN Ro (.cons x9 x6 (.cons Oh N9 (.cons RL Rn (.nil _))))))) aI Tryz.func62
def HL:List (Nat×Ann):=[(16,⟨[(0,.val tI),(1,.val .str),(49,.val tI)],[],[],aO _⟩),
 (200016,⟨[],[],[],fun _=>0⟩)]
def uC:aA:=⟨[.val tI,.val .str],[.val .str,.val tI],fun x=>gZ x.1 x.2.1⟩
noncomputable def KL:Cx:=⟨tpr,[(14,pV),(57,sM),(58,Fw),(59,Bn),(60,Fx),(61,zG),(62,pR)],[]⟩
theorem Jc:aQ KL HL none Tryz.f15 uC:=by intro x;kernel_rfl
theorem KZ:ay tpr 15:=au Tryz.func15 rfl (by decide)
theorem K3:aF tpr 15 uC:=aH Jc (.cons AK AB (.cons E5 EW (.cons PR PD (.cons JK Jp (.cons PS PE (.cons E4 EV (.cons Dp C8 (.nil _)))))))) aI Tryz.func15
def iK:aA:=⟨[.val .str,.val tI],[.val .str,.val tI],fun x=>bB x.1 x.2.1⟩
noncomputable def NP:Cx:=⟨tpr,[(12,xu),(13,nr),(14,pV),(15,uC),(16,qN)],[]⟩
theorem LX:aQ NP [] none Tryz.f4 iK:=by intro x;kernel_rfl
theorem mF:ay tpr 4:=au Tryz.func4 rfl (by decide)
theorem mH:aF tpr 4 iK:=aH LX (.cons Iz Im (.cons wS wM (.cons AK AB (.cons K3 KZ (.cons D7 D4 (.nil _)))))) aI Tryz.func4
def Qo:List (Nat×Ann):=[(300001,⟨[(6,.val .bool)],[],[],fun _=>0⟩)]
def D1:aA:=⟨[.val tI,.val tI,.val tI],[.val .bool],fun x=>xe x.1 x.2.1 x.2.2.1⟩
noncomputable def Vx:Cx:=⟨tpr,[],[]⟩
theorem Tf:aQ Vx Qo none Tryz.f17 D1:=by intro x;kernel_rfl
theorem VV:ay tpr 17:=au Tryz.func17 rfl (by decide)
theorem V6:aF tpr 17 D1:=aH Tf (.nil _) aI Tryz.func17
def rO:aA:=⟨[.val tI,.val tI,.val tI],[.val .bool],fun x=>rV x.1 x.2.1 x.2.2.1⟩
noncomputable def W4:Cx:=⟨tpr,[],[]⟩
theorem VQ:aQ W4 [] none Tryz.f111 rO:=by intro x;kernel_rfl
theorem Az:ay tpr 111:=au Tryz.func111 rfl (by decide)
theorem AI:aF tpr 111 rO:=aH VQ (.nil _) aI Tryz.func111
def Bv:aA:=⟨[.val tI],[.val .bool],fun x=>Ad x.1⟩
noncomputable def W0:Cx:=⟨tpr,[(111,rO)],[]⟩
theorem VN:aQ W0 [] none Tryz.f76 Bv:=by intro x;kernel_rfl
theorem Mk:ay tpr 76:=au Tryz.func76 rfl (by decide)
theorem MB:aF tpr 76 Bv:=aH VN (.cons AI Az (.nil _)) aI Tryz.func76
def O6:List (Nat×Ann):=[(4,⟨[(0,.val .str),(7,.val tI),(8,.val tI)],[],[],aO _⟩),
 (200004,⟨[],[],[],fun _=>0⟩)]
def Cm:aA:=⟨[.val .str],[.val .bool],fun x=>nh x.1⟩
noncomputable def SZ:Cx:=⟨tpr,[],[]⟩
theorem Q4:aQ SZ O6 none Tryz.f139 Cm:=by intro x;kernel_rfl
theorem Tx:ay tpr 139:=au Tryz.func139 rfl (by decide)
theorem TX:aF tpr 139 Cm:=aH Q4 (.nil _) aI Tryz.func139
def SD:List (Nat×Ann):=[(3,⟨[(0,.val .str),(3,.val tI),(7,.val tI),(8,.val tI)],[],[],aO _⟩),
 (200003,⟨[(3,.val tI)],[],[],fun _=>0⟩)]
def FL:aA:=⟨[.val .str],[.val .bool],fun x=>ni x.1⟩
noncomputable def W3:Cx:=⟨tpr,[],[]⟩
theorem VP:aQ W3 SD none Tryz.f140 FL:=by intro x;kernel_rfl
theorem Xz:ay tpr 140:=au Tryz.func140 rfl (by decide)
theorem X9:aF tpr 140 FL:=aH VP (.nil _) aI Tryz.func140
def xw:aA:=⟨[.val tI,.val .str],[.val .bool],fun x=>qq x.1 x.2.1⟩
noncomputable def S5:Cx:=⟨tpr,[(111,rO),(139,Cm),(140,FL),(141,GP),(142,GQ),(143,M0),(144,IT)],[]⟩
theorem Q5:aQ S5 [] none Tryz.f77 xw:=by intro x;kernel_rfl
theorem Io:ay tpr 77:=au Tryz.func77 rfl (by decide)
theorem IA:aF tpr 77 xw:=aH Q5 (.cons AI Az (.cons TX Tx (.cons X9 Xz (.cons RS Rt (.cons RT Ru (.cons Ya XA (.cons TY Tz (.nil _)))))))) aI Tryz.func77
def NM:List (Nat×Ann):=[(6,⟨[(0,.val tI),(1,.val .str),(18,.val tI)],[],[],aO _⟩),
 (200006,⟨[],[],[],fun _=>0⟩),
 (300003,⟨[(17,.val .bool)],[],[],fun _=>0⟩)]
def Bt:aA:=⟨[.val tI,.val .str],[.val .str,.val tI],fun x=>Ba x.1 x.2.1⟩
noncomputable def QK:Cx:=⟨tpr,[(76,Bv),(77,xw)],[]⟩
theorem Px:aQ QK NM none Tryz.f19 Bt:=by intro x;kernel_rfl
theorem Rs:ay tpr 19:=au Tryz.func19 rfl (by decide)
theorem RR:aF tpr 19 Bt:=aH Px (.cons MB Mk (.cons IA Io (.nil _))) aI Tryz.func19
def nt:aA:=⟨[.val .str,.val tI],[.val .str,.val tI],fun x=>jM x.1 x.2.1⟩
noncomputable def SR:Cx:=⟨tpr,[(14,pV),(16,qN),(17,D1),(18,uY),(19,Bt)],[]⟩
theorem QX:aQ SR [] none Tryz.f5 nt:=by intro x;kernel_rfl
theorem wN:ay tpr 5:=au Tryz.func5 rfl (by decide)
theorem wT:aF tpr 5 nt:=aH QX (.cons AK AB (.cons D7 D4 (.cons V6 VV (.cons GA Gq (.cons RR Rs (.nil _)))))) aI Tryz.func5
def oB:aA:=⟨[.val .str],[.val .bool],fun x=>gj x.1⟩
noncomputable def Vs:Cx:=⟨tpr,[(18,uY)],[]⟩
theorem Ta:aQ Vs [] none Tryz.f78 oB:=by intro x;kernel_rfl
theorem yB:ay tpr 78:=au Tryz.func78 rfl (by decide)
theorem yG:aF tpr 78 oB:=aH Ta (.cons GA Gq (.nil _)) aI Tryz.func78
def lR:aA:=⟨[.val aY],[.val tI],fun x=>iQ x.1⟩
noncomputable def GY:Cx:=⟨tpr,[(13,nr)],[]⟩
theorem F6:aQ GY [] none Tryz.f90 lR:=by intro x;kernel_rfl
theorem x4:ay tpr 90:=au Tryz.func90 rfl (by decide)
theorem x7:aF tpr 90 lR:=aH F6 (.cons wS wM (.nil _)) aI Tryz.func90
def O1:List (Nat×Ann):=[(3,⟨[(3,.val tI),(4,.val tI),(5,.val tI)],[],[],aO _⟩),
 (200003,⟨[(3,.val tI)],[],[],fun _=>0⟩)]
def Cg:aA:=⟨[.val tI],[.val tI],fun x=>Hu x.1⟩
noncomputable def SN:Cx:=⟨tpr,[],[]⟩
theorem QU:aQ SN O1 none Tryz.f190 Cg:=by intro x;kernel_rfl
theorem Tp:ay tpr 190:=au Tryz.func190 rfl (by decide)
theorem TR:aF tpr 190 Cg:=aH QU (.nil _) aI Tryz.func190
def Bp:aA:=⟨[.val aY,.val tI,.val tI],[.val .bool],fun x=>AL x.1 x.2.1 x.2.2.1⟩
noncomputable def QG:Cx:=⟨tpr,[(190,Cg)],[]⟩
theorem Pt:aQ QG [] none Tryz.f145 Bp:=by intro x;kernel_rfl
theorem Rp:ay tpr 145:=au Tryz.func145 rfl (by decide)
theorem RO:aF tpr 145 Bp:=aH Pt (.cons TR Tp (.nil _)) aI Tryz.func145
def gN:aA:=⟨[.val aY,.val .bool],[.val tI],fun x=>ck x.1 x.2.1⟩
noncomputable def GZ:Cx:=⟨tpr,[(90,lR),(145,Bp)],[]⟩
theorem F7:aQ GZ [] none Tryz.f79 gN:=by intro x;kernel_rfl
theorem lH:ay tpr 79:=au Tryz.func79 rfl (by decide)
theorem lJ:aF tpr 79 gN:=aH F7 (.cons x7 x4 (.cons RO Rp (.nil _))) aI Tryz.func79
def GU:List (Nat×Ann):=[(3,⟨[(3,.mapR 8),(9,.val (.slice az)),(10,.val tI),(11,.val tI)],[],[.mapC 8 bN .bool],aO _⟩),
 (200003,⟨[],[],[],fun _=>0⟩)]
def sN:aA:=⟨[.val (.slice az)],[.val tI],fun x=>qF x.1⟩
noncomputable def I7:Cx:=⟨tpr,[(78,oB),(79,gN)],[]⟩
theorem H7:aQ I7 GU none Tryz.f20 sN:=by intro x;kernel_rfl
theorem Jq:ay tpr 20:=au Tryz.func20 rfl (by decide)
theorem JL:aF tpr 20 sN:=aH H7 (.cons yG yB (.cons lJ lH (.nil _))) aI Tryz.func20
def KI:List (Nat×Ann):=[(300001,⟨[(3,.val .bool)],[],[],fun _=>0⟩)]
def xO:aA:=⟨[.val az,.val (.ptr az)],[.val .bool],fun x=>wZ x.1 x.2.1⟩
noncomputable def NT:Cx:=⟨tpr,[],[]⟩
theorem L3:aQ NT KI none Tryz.f81 xO:=by intro x;kernel_rfl
theorem Od:ay tpr 81:=au Tryz.func81 rfl (by decide)
theorem Om:aF tpr 81 xO:=aH L3 (.nil _) aI Tryz.func81
def Ai:List (Nat×Ann):=[(2,⟨[(0,.val (.slice az)),(1,.val (.clo 81 (.ptr az))),(7,.val tI),(8,.val tI)],[],[],aO _⟩),
 (200002,⟨[],[],[],fun _=>0⟩)]
def kQ:aA:=⟨[.val (.slice az),.val (.clo 81 (.ptr az))],[.val tI],fun x=>gE x.1 x.2.1⟩
noncomputable def BD:Cx:=⟨tpr,[(81,xO)],[]⟩
theorem As:aQ BD Ai none Tryz.f80 kQ:=by intro x;kernel_rfl
theorem BF:ay tpr 80:=au Tryz.func80 rfl (by decide)
theorem BI:aF tpr 80 kQ:=aH As (.cons Om Od (.nil _)) aI Tryz.func80
def Lu:List (Nat×Ann):=[(1,⟨[(0,.val (.slice (.int .u32)))],[],[],aO _⟩),
 (200001,⟨[(0,.val (.slice (.int .u32)))],[],[],fun _=>0⟩)]
def nJ:aA:=⟨[.val (.slice (.int .u32))],[.val (.slice (.int .u32))],fun x=>oE x.1⟩
noncomputable def Pm:Cx:=⟨tpr,[],[]⟩
theorem N8:aQ Pm Lu none Tryz.f156 nJ:=by intro x;kernel_rfl
theorem zq:ay tpr 156:=au Tryz.func156 rfl (by decide)
theorem zz:aF tpr 156 nJ:=aH N8 (.nil _) aI Tryz.func156
def mC:aA:=⟨[.val .bool,.val (.slice (.int .u32))],[.val bp],fun x=>je x.1 x.2.1⟩
noncomputable def VB:Cx:=⟨tpr,[(156,nJ)],[]⟩
theorem Tj:aQ VB [] none Tryz.f98 mC:=by intro x;kernel_rfl
theorem tj:ay tpr 98:=au Tryz.func98 rfl (by decide)
theorem tw:aF tpr 98 mC:=aH Tj (.cons zz zq (.nil _)) aI Tryz.func98
def Vn:List (Nat×Ann):=[(100003,⟨[(0,.val tI),(2,.ref 2 0),(3,.val (.int .u64))],[(2,EL)],[],fun _=>0⟩)]
def nj:aA:=⟨[.val tI],[.val bp],fun x=>qw x.1⟩
noncomputable def Y2:Cx:=⟨tpr,[(98,mC)],[]⟩
theorem Xf:aQ Y2 Vn none Tryz.f38 nj:=by intro x;kernel_rfl
theorem uf:ay tpr 38:=au Tryz.func38 rfl (by decide)
theorem uj:aF tpr 38 nj:=aH Xf (.cons tw tj (.nil _)) aI Tryz.func38
def I3:List (Nat×Ann):=[(3,⟨[(2,.ref 2 0),(3,.ref 3 0),(4,.ref 4 0),(5,.rowR 18),(20,.val (.slice (.int .u32))),(21,.val tI),(22,.val tI)],[(2,xX),(3,xX),(4,EL)],[.rowC 18 146 (.int .u32)],aO _⟩),
 (7,⟨[(2,.ref 2 0),(3,.ref 3 0),(4,.ref 4 0),(5,.rowR 18),(6,.val tI),(7,.val (.int .u32)),(8,.val (.int .u64)),(20,.val (.slice (.int .u32))),(21,.val tI),(22,.val tI),(28,.val (.slice (.int .u32))),(29,.val tI),(30,.val tI)],[(2,xX),(3,xX),(4,EL)],[.rowC 18 146 (.int .u32)],aO _⟩),
 (200003,⟨[(2,.ref 2 0),(3,.ref 3 0),(4,.ref 4 0),(5,.rowR 18)],[(2,xX),(3,xX),(4,EL)],[.rowC 18 146 (.int .u32)],fun _=>0⟩),
 (200007,⟨[(2,.ref 2 0),(3,.ref 3 0),(4,.ref 4 0),(5,.rowR 18),(6,.val tI),(8,.val (.int .u64)),(20,.val (.slice (.int .u32))),(21,.val tI),(22,.val tI)],[(2,xX),(3,xX),(4,EL)],[.rowC 18 146 (.int .u32)],fun _=>0⟩)]
def jJ:aA:=⟨[.val bp,.val bp],[.val bp],fun x=>iP x.1 x.2.1⟩
noncomputable def LU:Cx:=⟨tpr,[(98,mC)],[]⟩
theorem KY:aQ LU I3 none Tryz.f92 jJ:=by intro x;kernel_rfl
theorem oO:ay tpr 92:=au Tryz.func92 rfl (by decide)
theorem oS:aF tpr 92 jJ:=aH KY (.cons tw tj (.nil _)) aI Tryz.func92
def O7:List (Nat×Ann):=[(3,⟨[(2,.ref 2 0),(3,.ref 3 0),(5,.val tI),(6,.val tI)],[(2,EL),(3,xX)],[],aO _⟩),
 (200003,⟨[(2,.ref 2 0),(3,.ref 3 0)],[(2,EL),(3,xX)],[],fun _=>0⟩)]
def xz:aA:=⟨[.val tI],[.val bp],fun x=>yl x.1⟩
noncomputable def S6:Cx:=⟨tpr,[(38,nj),(92,jJ)],[]⟩
theorem Q6:aQ S6 O7 none Tryz.f93 xz:=by intro x;kernel_rfl
theorem Ip:ay tpr 93:=au Tryz.func93 rfl (by decide)
theorem IB:aF tpr 93 xz:=aH Q6 (.cons uj uf (.cons oS oO (.nil _))) aI Tryz.func93
end Go.Proofs.SeatU
end
