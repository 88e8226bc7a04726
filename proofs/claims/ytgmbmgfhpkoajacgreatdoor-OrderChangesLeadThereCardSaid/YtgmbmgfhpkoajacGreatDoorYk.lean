/-
  Each function that the law reaches is as its plain model says, a further part. No condition.
-/
import Derived.Test.YtgmbmgfhpkoajacGreatDoorYw
set_option maxRecDepth 100000
noncomputable section
namespace Go.Proofs.SeatA
open Go.Dn Go.Md Go.Proofs
def z6:List CK:=[.val (.slice .str),.val .bool]
def CF:List CK:=[.val .bool,.own 154 (.int .u32)]
def nk:List CK:=[.val .bool,.val (.slice (.int .u32))]
def CG:List CK:=[.val .bool,.val .bool,.val .bool,.val .bool,.val .bool,.val .bool]
def nq:List CK:=[.val tI,.val tI,.val tI,.val tI,.val tI,.val .str,.val tI,.val tI,.val .str,.val tI,.val tI,.val tI,.val tI]
def jt:ay:=⟨[.val .str,.val .str],[.val .bool],fun x=>kL x.1 x.2.1⟩
noncomputable def qs:Cx:=⟨tpr,[],[]⟩
theorem qy:FB 121 jt:=fbk qs [] none (by intro x;kernel_rfl) (.nil _) Tryz.func121
def jq:ay:=⟨[.val .str,.val .str],[.val .str,.val .bool],fun x=>kJ x.1 x.2.1⟩
noncomputable def qp:Cx:=⟨tpr,[(121,jt)],[]⟩
theorem qw:FB 91 jq:=fbk qp [] none (by intro x;kernel_rfl) (cz qy (.nil _)) Tryz.func91
def tF:ay:=⟨[.val .str,.val .str],[.val .str,.val .bool],fun x=>wF x.1 x.2.1⟩
noncomputable def AZ:Cx:=⟨tpr,[(91,jq)],[]⟩
theorem A9:FB 50 tF:=fbk AZ [] none (by intro x;kernel_rfl) (cz qw (.nil _)) Tryz.func50
def DI:ay:=⟨[.val .str],[.val (.slice .str),.val .bool],fun x=>JD x.1⟩
noncomputable def LG:Cx:=⟨tpr,[(50,tF),(51,rS)],[]⟩
theorem LO:FB 31 DI:=fbk LG [] none (by intro x;kernel_rfl) (cz A9 (.cons xT xL (.nil _))) Tryz.func31
def Is:List (Nat×Ann):=[(3,⟨[(4,.rowR 27920),(9,.rowR 27920),(10,.val tI),(11,.val tI)],[],[.rowC 27920 9 .str],br _⟩),
 (200003,⟨[(4,.rowR 27920)],[],[.rowC 27920 9 .str],fun _=>0⟩)]
def DJ:ay:=⟨[.val .str],[.val (.slice .str),.val .bool],fun x=>JE x.1⟩
noncomputable def LH:Cx:=⟨tpr,[(51,rS)],[]⟩
theorem LP:FB 52 DJ:=fbk LH Is none (by intro x;kernel_rfl) (.cons xT xL (.nil _)) Tryz.func52
def gQ:ay:=⟨[.box [.val (.slice .str),.val .bool]],[.val .str],fun x=>gU x.1⟩
noncomputable def Cj:Cx:=⟨tpr,[],[]⟩
theorem jP:FB 58 gQ:=fbk Cj [] none (by intro x;kernel_rfl) (.nil _) Tryz.func58
def sG:ay:=⟨[.box [.val (.slice .str),.val .bool]],[.val tI],fun x=>fV x.1⟩
noncomputable def Af:Cx:=⟨tpr,[(58,gQ),(93,B6)],[]⟩
theorem Ao:FB 53 sG:=fbk Af [] none (by intro x;kernel_rfl) (cz jP (.cons KJ KG (.nil _))) Tryz.func53
def yb:ay:=⟨[],[.val (.slice .str)],fun _=>B2⟩
noncomputable def Fu:Cx:=⟨tpr,[],[]⟩
theorem FH:FB 55 yb:=fbk Fu [] none (by intro x;kernel_rfl) (.nil _) Tryz.func55
def xp:List (Nat×Ann):=[(2,⟨[(0,.val (.slice .str)),(1,.val .str),(7,.val tI),(8,.val tI)],[],[],br _⟩),
 (200002,⟨[],[],[],fun _=>0⟩)]
def qN:ay:=⟨[.val (.slice .str),.val .str],[.val tI],fun x=>tW x.1 x.2.1⟩
noncomputable def zx:Cx:=⟨tpr,[],[]⟩
theorem zD:FB 94 qN:=fbk zx xp none (by intro x;kernel_rfl) (.nil _) Tryz.func94
def tD:ay:=⟨[.box [.val (.slice .str),.val .bool],.val (.slice .str)],[.val tI],fun x=>qm x.1 x.2.1⟩
noncomputable def AX:Cx:=⟨tpr,[(58,gQ),(94,qN)],[]⟩
theorem A7:FB 54 tD:=fbk AX [] none (by intro x;kernel_rfl) (cz jP (cz zD (.nil _))) Tryz.func54
def vK:ay:=⟨[],[.val (.slice .str)],fun _=>yK⟩
noncomputable def CO:Cx:=⟨tpr,[],[]⟩
theorem C0:FB 56 vK:=fbk CO [] none (by intro x;kernel_rfl) (.nil _) Tryz.func56
def jr:ay:=⟨[.val .str,.val .str],[.val .bool],fun x=>kK x.1 x.2.1⟩
noncomputable def qq:Cx:=⟨tpr,[],[]⟩
theorem qx:FB 161 jr:=fbk qq [] none (by intro x;kernel_rfl) (.nil _) Tryz.func161
def jm:ay:=⟨[.val .str,.val .str],[.val .str,.val .bool],fun x=>kI x.1 x.2.1⟩
noncomputable def qo:Cx:=⟨tpr,[(161,jr)],[]⟩
theorem qv:FB 146 jm:=fbk qo [] none (by intro x;kernel_rfl) (cz qx (.nil _)) Tryz.func146
def tE:ay:=⟨[.val .str,.val .str],[.val .str,.val .bool],fun x=>wE x.1 x.2.1⟩
noncomputable def AY:Cx:=⟨tpr,[(146,jm)],[]⟩
theorem A8:FB 127 tE:=fbk AY [] none (by intro x;kernel_rfl) (cz qv (.nil _)) Tryz.func127
def lR:ay:=⟨[.val .str,.val .str],[.val tI],fun x=>nu x.1 x.2.1⟩
noncomputable def tN:Cx:=⟨tpr,[(154,fF)],[]⟩
theorem tO:FB 142 lR:=fbk tN [] none (by intro x;kernel_rfl) (.cons qB qA (.nil _)) Tryz.func142
def mF:ay:=⟨[.val .str,.val .str],[.val .str,.val .str,.val .bool],fun x=>oL x.1 x.2.1⟩
noncomputable def vi:Cx:=⟨tpr,[(142,lR)],[]⟩
theorem vl:FB 147 mF:=fbk vi [] none (by intro x;kernel_rfl) (cz tO (.nil _)) Tryz.func147
def AH:ay:=⟨[.val .str,.val .str],[.val .str,.val .str,.val .bool],fun x=>Ff x.1 x.2.1⟩
noncomputable def IA:Cx:=⟨tpr,[(147,mF)],[]⟩
theorem IF:FB 128 AH:=fbk IA [] none (by intro x;kernel_rfl) (cz vl (.nil _)) Tryz.func128
def Cd:List (Nat×Ann):=[(300001,⟨[(2,.val .bool)],[],[],fun _=>0⟩)]
def wB:ay:=⟨[.val .str],[.val .bool],fun x=>zU x.1⟩
noncomputable def Ev:Cx:=⟨tpr,[(125,iN)],[]⟩
theorem EB:FB 129 wB:=fbk Ev Cd none (by intro x;kernel_rfl) (.cons s5 yF (.nil _)) Tryz.func129
def Cv:List (Nat×Ann):=[(1,⟨[(0,.val (.slice (.int .u32)))],[],[],br _⟩),
 (200001,⟨[(0,.val (.slice (.int .u32)))],[],[],fun _=>0⟩)]
def mX:ay:=⟨[.val (.slice (.int .u32))],[.val (.slice (.int .u32))],fun x=>ku x.1⟩
noncomputable def FA:Cx:=⟨tpr,[],[]⟩
theorem rG:FB 132 mX:=fbk FA Cv none (by intro x;kernel_rfl) (.nil _) Tryz.func132
def kj:ay:=⟨[.val .bool,.val (.slice (.int .u32))],[.val cF],fun x=>fJ x.1 x.2.1⟩
noncomputable def Kz:Cx:=⟨tpr,[(132,mX)],[]⟩
theorem nt:FB 107 kj:=fbk Kz [] none (by intro x;kernel_rfl) (cz rG (.nil _)) Tryz.func107
def Kk:List (Nat×Ann):=[(100003,⟨[(0,.val tI),(2,.ref 2 0),(3,.val (.int .u64))],[(2,CF)],[],fun _=>0⟩)]
def ve:ay:=⟨[.val tI],[.val cF],fun x=>pM x.1⟩
noncomputable def MZ:Cx:=⟨tpr,[(107,kj)],[]⟩
theorem zE:FB 64 ve:=fbk MZ Kk none (by intro x;kernel_rfl) (cz nt (.nil _)) Tryz.func64
def AT:List (Nat×Ann):=[(3,⟨[(2,.ref 2 0),(3,.ref 3 0),(4,.ref 4 0),(5,.rowR 18),(20,.val (.slice (.int .u32))),(21,.val tI),(22,.val tI)],[(2,nk),(3,nk),(4,CF)],[.rowC 18 154 (.int .u32)],br _⟩),
 (7,⟨[(2,.ref 2 0),(3,.ref 3 0),(4,.ref 4 0),(5,.rowR 18),(6,.val tI),(7,.val (.int .u32)),(8,.val (.int .u64)),(20,.val (.slice (.int .u32))),(21,.val tI),(22,.val tI),(28,.val (.slice (.int .u32))),(29,.val tI),(30,.val tI)],[(2,nk),(3,nk),(4,CF)],[.rowC 18 154 (.int .u32)],br _⟩),
 (200003,⟨[(2,.ref 2 0),(3,.ref 3 0),(4,.ref 4 0),(5,.rowR 18)],[(2,nk),(3,nk),(4,CF)],[.rowC 18 154 (.int .u32)],fun _=>0⟩),
 (200007,⟨[(2,.ref 2 0),(3,.ref 3 0),(4,.ref 4 0),(5,.rowR 18),(6,.val tI),(8,.val (.int .u64)),(20,.val (.slice (.int .u32))),(21,.val tI),(22,.val tI)],[(2,nk),(3,nk),(4,CF)],[.rowC 18 154 (.int .u32)],fun _=>0⟩)]
def vN:ay:=⟨[.val cF,.val cF],[.val cF],fun x=>yZ x.1 x.2.1⟩
noncomputable def CT:Cx:=⟨tpr,[(107,kj)],[]⟩
theorem C3:FB 148 vN:=fbk CT AT none (by intro x;kernel_rfl) (cz nt (.nil _)) Tryz.func148
def It:List (Nat×Ann):=[(6,⟨[(1,.val (.slice (.int .u32))),(5,.own 154 (.int .u32)),(6,.val (.int .u64)),(20,.val (.slice (.int .u32))),(21,.val tI),(22,.val tI)],[],[],br _⟩),
 (100002,⟨[(0,.val (.slice (.int .u32))),(1,.val (.slice (.int .u32)))],[],[],fun _=>0⟩),
 (100010,⟨[(1,.val (.slice (.int .u32))),(5,.own 154 (.int .u32)),(6,.val (.int .u64)),(20,.val (.slice (.int .u32))),(21,.val tI),(22,.val tI)],[],[],fun _=>0⟩),
 (200006,⟨[(5,.own 154 (.int .u32)),(6,.val (.int .u64))],[],[],fun _=>0⟩)]
def DK:ay:=⟨[.val (.slice (.int .u32)),.val (.slice (.int .u32))],[.row 154 (.int .u32)],fun x=>za x.1 x.2.1⟩
noncomputable def LI:Cx:=⟨tpr,[],[]⟩
theorem LR:FB 131 DK:=fbk LI It none (by intro x;kernel_rfl) (.nil _) Tryz.func131
def Fo:List (Nat×Ann):=[(6,⟨[(1,.val (.slice (.int .u32))),(5,.own 154 (.int .u32)),(6,.val (.int .u64)),(20,.val (.slice (.int .u32))),(21,.val tI),(22,.val tI)],[],[],br _⟩),
 (100002,⟨[(0,.val (.slice (.int .u32))),(1,.val (.slice (.int .u32)))],[],[],fun _=>0⟩),
 (100010,⟨[(1,.val (.slice (.int .u32))),(5,.own 154 (.int .u32)),(6,.val (.int .u64)),(20,.val (.slice (.int .u32))),(21,.val tI),(22,.val tI)],[],[],fun _=>0⟩),
 (200006,⟨[(5,.own 154 (.int .u32)),(6,.val (.int .u64))],[],[],fun _=>0⟩)]
def AI:ay:=⟨[.val (.slice (.int .u32)),.val (.slice (.int .u32))],[.val (.slice (.int .u32))],fun x=>Fj x.1 x.2.1⟩
noncomputable def IB:Cx:=⟨tpr,[],[]⟩
theorem IG:FB 131 AI:=fbk IB Fo none (by intro x;kernel_rfl) (.nil _) Tryz.func131
def Cu:List (Nat×Ann):=[(4,⟨[(0,.val (.slice (.int .u32))),(1,.val (.slice (.int .u32))),(5,.val tI)],[],[],br _⟩),
 (200004,⟨[],[],[],fun _=>0⟩)]
def rT:ay:=⟨[.val (.slice (.int .u32)),.val (.slice (.int .u32))],[.val tI],fun x=>nG x.1 x.2.1⟩
noncomputable def Fy:Cx:=⟨tpr,[],[]⟩
theorem xI:FB 133 rT:=fbk Fy Cu none (by intro x;kernel_rfl) (.nil _) Tryz.func133
def Gp:List (Nat×Ann):=[(4,⟨[(1,.val (.slice (.int .u32))),(5,.own 154 (.int .u32)),(6,.val (.int .u64)),(13,.val (.slice (.int .u32))),(14,.val tI),(15,.val tI)],[],[],br _⟩),
 (100008,⟨[(1,.val (.slice (.int .u32))),(5,.own 154 (.int .u32)),(9,.val (.int .u64)),(13,.val (.slice (.int .u32))),(14,.val tI),(15,.val tI)],[],[],fun _=>0⟩),
 (200004,⟨[(5,.own 154 (.int .u32))],[],[],fun _=>0⟩)]
def wq:ay:=⟨[.val (.slice (.int .u32)),.val (.slice (.int .u32))],[.val (.slice (.int .u32))],fun x=>qg x.1 x.2.1⟩
noncomputable def Ky:Cx:=⟨tpr,[(132,mX)],[]⟩
theorem BX:FB 134 wq:=fbk Ky Gp none (by intro x;kernel_rfl) (cz rG (.nil _)) Tryz.func134
def wD:ay:=⟨[.val cF,.val cF],[.val cF],fun x=>AN x.1 x.2.1⟩
noncomputable def Ey:Cx:=⟨tpr,[(107,kj),(131,AI),(133,rT),(134,wq)],[]⟩
theorem ED:FB 149 wD:=fbk Ey [] none (by intro x;kernel_rfl) (cz nt (cz IG (cz xI (cz BX (.nil _))))) Tryz.func149
def qn:ay:=⟨[.val cF],[.val tI],fun x=>gX x.1⟩
noncomputable def Ez:Cx:=⟨tpr,[],[]⟩
theorem wz:FB 104 qn:=fbk Ez [] none (by intro x;kernel_rfl) (.nil _) Tryz.func104
def pn:ay:=⟨[.val cF],[.val cF],fun x=>lf x.1⟩
noncomputable def CS:Cx:=⟨tpr,[(107,kj)],[]⟩
theorem vo:FB 105 pn:=fbk CS [] none (by intro x;kernel_rfl) (cz nt (.nil _)) Tryz.func105
def Ct:List (Nat×Ann):=[(5,⟨[(1,.val tI),(2,.ref 2 0),(6,.val (.int .u64)),(14,.val (.slice (.int .u32))),(15,.val tI),(16,.val tI)],[(2,nk)],[],br _⟩),
 (200005,⟨[(1,.val tI),(2,.ref 2 0),(6,.val (.int .u64))],[(2,nk)],[],fun _=>0⟩)]
def yd:ay:=⟨[.val cF,.val tI],[.val tI,.val .bool],fun x=>ry x.1 x.2.1⟩
noncomputable def Fx:Cx:=⟨tpr,[],[]⟩
theorem FI:FB 135 yd:=fbk Fx Ct none (by intro x;kernel_rfl) (.nil _) Tryz.func135
def uD:ay:=⟨[.val cF,.val tI],[.val aA,.val tI],fun x=>lp x.1 x.2.1⟩
noncomputable def Iv:Cx:=⟨tpr,[(135,yd)],[]⟩
theorem Ak:FB 106 uD:=fbk Iv [] none (by intro x;kernel_rfl) (cz FI (.nil _)) Tryz.func106
def Fl:List (Nat×Ann):=[(3,⟨[(0,.val .bool),(1,.val .str),(2,.val .str),(6,.ref 6 0),(8,.ref 8 0),(14,.val tI),(15,.val tI)],[(6,[.val tI,.val tI]),(8,nk)],[],br _⟩),
 (200003,⟨[(0,.val .bool),(2,.val .str),(6,.ref 6 0),(8,.ref 8 0)],[(6,[.val tI,.val tI]),(8,nk)],[],fun _=>0⟩)]
def AG:ay:=⟨[.val .bool,.val .str,.val .str],[.val aA,.val tI],fun x=>EE x.1 x.2.1 x.2.2.1⟩
noncomputable def Iw:Cx:=⟨tpr,[(64,ve),(104,qn),(105,pn),(106,uD),(148,vN),(149,wD)],[]⟩
theorem IE:FB 130 AG:=fbk Iw Fl none (by intro x;kernel_rfl) (cz zE (cz wz (cz vo (cz Ak (cz C3 (cz ED (.nil _))))))) Tryz.func130
def AQ:List (Nat×Ann):=[(300003,⟨[(40,.val .bool)],[],[],fun _=>0⟩)]
def vI:ay:=⟨[.val .str],[.val aA,.val tI],fun x=>yw x.1⟩
noncomputable def CL:Cx:=⟨tpr,[(125,iN),(127,tE),(128,AH),(129,wB),(130,AG)],[]⟩
theorem CY:FB 95 vI:=fbk CL AQ none (by intro x;kernel_rfl) (.cons s5 yF (cz A8 (cz IF (cz EB (cz IE (.nil _)))))) Tryz.func95
def qM:ay:=⟨[.box [.val (.slice .str),.val .bool]],[.val aA],fun x=>nT x.1⟩
noncomputable def zw:Cx:=⟨tpr,[(58,gQ),(95,vI)],[]⟩
theorem zC:FB 59 qM:=fbk zw [] none (by intro x;kernel_rfl) (cz jP (cz CY (.nil _))) Tryz.func59
def Ce:List (Nat×Ann):=[(100008,⟨[(2,.ref 2 0),(6,.ref 19 0),(7,.ref 7 0),(8,.ref 8 0)],[(2,nq),(7,nq),(8,CG),(19,z6)],[],fun _=>0⟩),
 (100010,⟨[(2,.ref 2 0),(6,.ref 19 0),(7,.ref 7 0),(8,.ref 8 0)],[(2,nq),(7,nq),(8,CG),(19,z6)],[],fun _=>0⟩),
 (100012,⟨[(2,.ref 2 0),(6,.ref 19 0),(7,.ref 7 0),(8,.ref 8 0)],[(2,nq),(7,nq),(8,CG),(19,z6)],[],fun _=>0⟩),
 (100014,⟨[(2,.ref 2 0),(6,.ref 19 0),(7,.ref 7 0),(8,.ref 8 0)],[(2,nq),(7,nq),(8,CG),(19,z6)],[],fun _=>0⟩),
 (100016,⟨[(2,.ref 2 0),(6,.ref 19 0),(7,.ref 7 0),(8,.ref 8 0)],[(2,nq),(7,nq),(8,CG),(19,z6)],[],fun _=>0⟩),
 (100018,⟨[(2,.ref 2 0),(6,.ref 19 0),(7,.ref 7 0)],[(2,nq),(7,nq),(19,z6)],[],fun _=>0⟩)]
def wC:ay:=⟨[.val .str],[.val ax,.val .bool],fun x=>Ay x.1⟩
noncomputable def Ew:Cx:=⟨tpr,[(52,DJ),(53,sG),(54,tD),(55,yb),(56,vK),(57,tw),(58,gQ),(59,qM)],[]⟩
theorem EC:FB 32 wC:=fbk Ew Ce none (by intro x;kernel_rfl) (cz LP (cz Ao (cz A7 (cz FH (cz C0 (cz yC (cz jP (cz zC (.nil _))))))))) Tryz.func32
def Gj:List (Nat×Ann):=[(6,⟨[(5,.val (.slice .str)),(6,.val .bool),(7,.own 52 ax),(21,.val (.slice .str)),(22,.val tI),(23,.val tI)],[],[],br _⟩),
 (200006,⟨[(7,.own 52 ax)],[],[],fun _=>0⟩),
 (300009,⟨[(45,.val .bool)],[],[],fun _=>0⟩)]
def B7:ay:=⟨[.val .str],[.row 52 ax,.val tI,.val tI],fun x=>HC x.1⟩
noncomputable def Kr:Cx:=⟨tpr,[(15,jU),(31,DI),(32,wC)],[]⟩
theorem KC:FB 16 B7:=fbk Kr Gj none (by intro x;kernel_rfl) (cz jO (cz LO (cz EC (.nil _)))) Tryz.func16
def Kh:List (Nat×Ann):=[(300002,⟨[(0,.val .bool)],[],[],fun _=>0⟩)]
def E7:ay:=⟨[],[.val .bool],fun _=>rJ⟩
noncomputable def MT:Cx:=⟨tpr,[(16,B7)],[]⟩
theorem M4:FB 5 E7:=fbk MT Kh none (by intro x;kernel_rfl) (cz KC (.nil _)) Tryz.func5
end Go.Proofs.SeatA
end
