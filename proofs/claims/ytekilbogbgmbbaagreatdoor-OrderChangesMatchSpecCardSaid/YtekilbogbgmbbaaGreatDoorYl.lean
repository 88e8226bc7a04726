/-
  Each function that the law reaches is as its plain model says, and the law itself. No condition.
-/
import Derived.Test.YtekilbogbgmbbaaGreatDoorYk
import Derived.Test.YtekilbogbgmbbaaGreatDoorYI
import Derived.Test.YtekilbogbgmbbaaGreatDoorYj
set_option maxRecDepth 100000
noncomputable section
namespace Go.Proofs.SeatA
open Go.Dn Go.Md Go.Proofs
def Ek:List CK:=[.val (.slice .str),.val .bool]
def vN:List CK:=[.val .bool,.own 181 (.int .u32)]
def jl:List CK:=[.val .bool,.val (.slice (.int .u32))]
def HO:List CK:=[.val .bool,.val .bool,.val .bool,.val .bool,.val .bool,.val .bool]
def yW:List CK:=[.val .str,.val .str,.val .str,.val tI,.val tI,.own 53 aJ]
def SR:List CK:=[.val .str,.val .str,.val .str,.val tI,.val tI,.val (.slice aJ),.val (.slice aq),.map tI .hnd,.own 114 au,.own 44 bL,.val tI]
def MW:List CK:=[.val .str,.val .str,.val .str,.val tI,.val tI,.val (.slice aJ),.val (.slice aq),.mapR 10250003,.rowR 10250004,.rowR 10250005,.val tI]
def MX:List CK:=[.val .str,.val .str,.val .str,.val tI,.val tI,.val (.slice aJ),.val (.slice aq),.own 90 aT,.own 114 au]
def Yo:List CK:=[.val .str,.val .str,.val .str,.val tI,.val tI,.val (.slice aJ),.val (.slice aq),.rowR 10250003,.rowR 10250004]
def SS:List CK:=[.val .str,.val .str,.val .str,.val tI,.val tI,.val (.slice aJ),.val (.slice aq),.rowR 4000,.rowR 10250004]
def Vy:List CK:=[.val tI,.val .str,.val .str,.val tI,.val tI,.val tI,.val tI,.val tI,.val tI,.val tI,.val tI,.val tI,.val tI,.val tI,.val tI,.val tI,.val tI,.val tI,.val (.slice bL)]
def Vz:List CK:=[.val tI,.val .str,.val .str,.val tI,.val tI,.val tI,.val tI,.val tI,.val tI,.val tI,.val tI,.val tI,.val tI,.val tI,.val tI,.val tI]
def eL:List CK:=[.val tI,.val tI,.val tI,.val tI,.val tI,.val .str,.val tI,.val tI,.val .str,.val tI,.val tI,.val tI,.val tI]
def vr:List CK:=[.val tI,.val tI]
def Ba:List (Nat×Ann):=[(100011,⟨[(0,.ref 2000 0),(1,.val tI),(5,.ref 5 0),(6,.val .hnd),(31,.val tI),(36,.val .bool)],[(5,eL),(2000,MW)],[.rowC 10250004 114 au,.rowC 10250005 44 bL,.mapC 10250003 tI .hnd,.ar bP],fun _=>0⟩),
 (100015,⟨[(0,.ref 2000 0),(5,.ref 5 0),(6,.val .hnd),(31,.val tI),(44,.val .bool)],[(5,eL),(2000,MW)],[.rowC 10250004 114 au,.rowC 10250005 44 bL,.mapC 10250003 tI .hnd,.ar bP],fun _=>0⟩),
 (100017,⟨[(5,.ref 5 0),(6,.val .hnd),(7,.val tI)],[(5,eL),(2000,SR)],[.ar bP],fun _=>0⟩),
 (300021,⟨[(69,.val .bool)],[],[],fun _=>0⟩)]
def uc:av:=⟨[.box [.val aH,.val (.slice aq),.map tI .hnd,.row 114 au,.row 44 bL,.val tI],.val tI,.ar bP],[.val tI],fun x=>aN x.1 x.2.1 x.2.2.1⟩
noncomputable def Ds:Cx:=⟨tpr,[(64,k5),(74,rR),(95,vI),(96,ug),(97,rP),(98,qP),(99,uf),(100,ud)],[]⟩
theorem Dz:FB 65 uc:=fbk Ds Ba none (by intro x;kernel_rfl) (cz nW (cz zb (cz EA (cz DC (cz Bu (cz Au (cz DB (cz DA (.nil _))))))))) Tryz.func65
def HD:List (Nat×Ann):=[(1,⟨[(0,.val (.slice (.int .u32)))],[],[],bg _⟩),
 (200001,⟨[(0,.val (.slice (.int .u32)))],[],[],fun _=>0⟩)]
def pH:av:=⟨[.val (.slice (.int .u32))],[.val (.slice (.int .u32))],fun x=>mw x.1⟩
noncomputable def LN:Cx:=⟨tpr,[],[]⟩
theorem uS:FB 166 pH:=fbk LN HD none (by intro x;kernel_rfl) (.nil _) Tryz.func166
def mo:av:=⟨[.val .bool,.val (.slice (.int .u32))],[.val dw],fun x=>gG x.1 x.2.1⟩
noncomputable def RC:Cx:=⟨tpr,[(166,pH)],[]⟩
theorem pP:FB 144 mo:=fbk RC [] none (by intro x;kernel_rfl) (cz uS (.nil _)) Tryz.func144
def Rl:List (Nat×Ann):=[(100003,⟨[(0,.val tI),(2,.ref 2 0),(3,.val (.int .u64))],[(2,vN)],[],fun _=>0⟩)]
def yR:av:=⟨[.val tI],[.val dw],fun x=>sA x.1⟩
noncomputable def UQ:Cx:=⟨tpr,[(144,mo)],[]⟩
theorem DH:FB 85 yR:=fbk UQ Rl none (by intro x;kernel_rfl) (cz pP (.nil _)) Tryz.func85
def OV:List (Nat×Ann):=[(6,⟨[(1,.val (.slice (.int .u32))),(5,.own 181 (.int .u32)),(6,.val (.int .u64)),(20,.val (.slice (.int .u32))),(21,.val tI),(22,.val tI)],[],[],bg _⟩),
 (100002,⟨[(0,.val (.slice (.int .u32))),(1,.val (.slice (.int .u32)))],[],[],fun _=>0⟩),
 (100010,⟨[(1,.val (.slice (.int .u32))),(5,.own 181 (.int .u32)),(6,.val (.int .u64)),(20,.val (.slice (.int .u32))),(21,.val tI),(22,.val tI)],[],[],fun _=>0⟩),
 (200006,⟨[(5,.own 181 (.int .u32)),(6,.val (.int .u64))],[],[],fun _=>0⟩)]
def Jq:av:=⟨[.val (.slice (.int .u32)),.val (.slice (.int .u32))],[.row 181 (.int .u32)],fun x=>Dh x.1 x.2.1⟩
noncomputable def Tf:Cx:=⟨tpr,[],[]⟩
theorem Tt:FB 165 Jq:=fbk Tf OV none (by intro x;kernel_rfl) (.nil _) Tryz.func165
def Lu:List (Nat×Ann):=[(6,⟨[(1,.val (.slice (.int .u32))),(5,.own 181 (.int .u32)),(6,.val (.int .u64)),(20,.val (.slice (.int .u32))),(21,.val tI),(22,.val tI)],[],[],bg _⟩),
 (100002,⟨[(0,.val (.slice (.int .u32))),(1,.val (.slice (.int .u32)))],[],[],fun _=>0⟩),
 (100010,⟨[(1,.val (.slice (.int .u32))),(5,.own 181 (.int .u32)),(6,.val (.int .u64)),(20,.val (.slice (.int .u32))),(21,.val tI),(22,.val tI)],[],[],fun _=>0⟩),
 (200006,⟨[(5,.own 181 (.int .u32)),(6,.val (.int .u64))],[],[],fun _=>0⟩)]
def EY:av:=⟨[.val (.slice (.int .u32)),.val (.slice (.int .u32))],[.val (.slice (.int .u32))],fun x=>Lo x.1 x.2.1⟩
noncomputable def Pc:Cx:=⟨tpr,[],[]⟩
theorem Pk:FB 165 EY:=fbk Pc Lu none (by intro x;kernel_rfl) (.nil _) Tryz.func165
def HC:List (Nat×Ann):=[(4,⟨[(0,.val (.slice (.int .u32))),(1,.val (.slice (.int .u32))),(5,.val tI)],[],[],bg _⟩),
 (200004,⟨[],[],[],fun _=>0⟩)]
def vg:av:=⟨[.val (.slice (.int .u32)),.val (.slice (.int .u32))],[.val tI],fun x=>p9 x.1 x.2.1⟩
noncomputable def LM:Cx:=⟨tpr,[],[]⟩
theorem BC:FB 167 vg:=fbk LM HC none (by intro x;kernel_rfl) (.nil _) Tryz.func167
def MO:List (Nat×Ann):=[(4,⟨[(1,.val (.slice (.int .u32))),(5,.own 181 (.int .u32)),(6,.val (.int .u64)),(13,.val (.slice (.int .u32))),(14,.val tI),(15,.val tI)],[],[],bg _⟩),
 (100008,⟨[(1,.val (.slice (.int .u32))),(5,.own 181 (.int .u32)),(9,.val (.int .u64)),(13,.val (.slice (.int .u32))),(14,.val tI),(15,.val tI)],[],[],fun _=>0⟩),
 (200004,⟨[(5,.own 181 (.int .u32))],[],[],fun _=>0⟩)]
def Ab:av:=⟨[.val (.slice (.int .u32)),.val (.slice (.int .u32))],[.val (.slice (.int .u32))],fun x=>tc x.1 x.2.1⟩
noncomputable def RB:Cx:=⟨tpr,[(166,pH)],[]⟩
theorem GH:FB 168 Ab:=fbk RB MO none (by intro x;kernel_rfl) (cz uS (.nil _)) Tryz.func168
def Ke:List (Nat×Ann):=[(4,⟨[(2,.ref 2 0),(3,.ref 3 0),(4,.ref 4 0),(5,.ref 5 0),(6,.rowR 12),(7,.val (.slice (.int .u32))),(8,.val tI)],[(2,jl),(3,jl),(4,vN),(5,vN)],[.rowC 12 181 (.int .u32)],bg _⟩),
 (200004,⟨[(4,.ref 4 0),(5,.ref 5 0),(6,.rowR 12),(7,.val (.slice (.int .u32)))],[(4,vN),(5,vN)],[.rowC 12 181 (.int .u32)],fun _=>0⟩)]
def Db:av:=⟨[.val dw,.val dw],[.val dw,.val dw],fun x=>si x.1 x.2.1⟩
noncomputable def Nh:Cx:=⟨tpr,[(144,mo),(165,Jq),(166,pH),(167,vg),(168,Ab)],[]⟩
theorem NA:FB 140 Db:=fbk Nh Ke none (by intro x;kernel_rfl) (cz pP (cz Tt (cz uS (cz BC (cz GH (.nil _)))))) Tryz.func140
def tw:av:=⟨[.val dw],[.val tI],fun x=>jd x.1⟩
noncomputable def Km:Cx:=⟨tpr,[],[]⟩
theorem Ad:FB 141 tw:=fbk Km [] none (by intro x;kernel_rfl) (.nil _) Tryz.func141
def rX:av:=⟨[.val dw],[.val dw],fun x=>mY x.1⟩
noncomputable def Ic:Cx:=⟨tpr,[(144,mo)],[]⟩
theorem zg:FB 142 rX:=fbk Ic [] none (by intro x;kernel_rfl) (cz pP (.nil _)) Tryz.func142
def Hz:List (Nat×Ann):=[(5,⟨[(1,.val tI),(2,.ref 2 0),(6,.val (.int .u64)),(14,.val (.slice (.int .u32))),(15,.val tI),(16,.val tI)],[(2,jl)],[],bg _⟩),
 (200005,⟨[(1,.val tI),(2,.ref 2 0),(6,.val (.int .u64))],[(2,jl)],[],fun _=>0⟩)]
def Cf:av:=⟨[.val dw,.val tI],[.val tI,.val .bool],fun x=>uL x.1 x.2.1⟩
noncomputable def LL:Cx:=⟨tpr,[],[]⟩
theorem LX:FB 169 Cf:=fbk LL Hz none (by intro x;kernel_rfl) (.nil _) Tryz.func169
def yb:av:=⟨[.val dw,.val tI],[.val au,.val tI],fun x=>nc x.1 x.2.1⟩
noncomputable def OX:Cx:=⟨tpr,[(169,Cf)],[]⟩
theorem Ey:FB 143 yb:=fbk OX [] none (by intro x;kernel_rfl) (cz LX (.nil _)) Tryz.func143
def Hu:List (Nat×Ann):=[(2,⟨[(1,.val tI),(2,.ref 2 0),(4,.ref 4 0),(6,.ref 6 0)],[(2,jl),(4,vr),(6,jl)],[],bg _⟩),
 (200002,⟨[(1,.val tI),(2,.ref 2 0),(4,.ref 4 0)],[(2,jl),(4,vr)],[],fun _=>0⟩)]
def B8:av:=⟨[.val dw,.val tI],[.val au,.val tI],fun x=>um x.1 x.2.1⟩
noncomputable def LC:Cx:=⟨tpr,[(85,yR),(140,Db),(141,tw),(142,rX),(143,yb)],[]⟩
theorem LU:FB 84 B8:=fbk LC Hu none (by intro x;kernel_rfl) (cz DH (cz NA (cz Ad (cz zg (cz Ey (.nil _)))))) Tryz.func84
def GU:av:=⟨[.val tI],[.val au],fun x=>mO x.1⟩
noncomputable def Rv:Cx:=⟨tpr,[(84,B8),(85,yR)],[]⟩
theorem RG:FB 57 GU:=fbk Rv [] none (by intro x;kernel_rfl) (cz LU (cz DH (.nil _))) Tryz.func57
def qy:av:=⟨[.val .hnd,.arR bP],[.val gC],fun x=>ja x.1 x.2.1⟩
noncomputable def Hi:Cx:=⟨tpr,[(57,GU),(58,w9),(59,rS)],[]⟩
theorem xB:FB 26 qy:=fbk Hi [] none (by intro x;kernel_rfl) (cz RG (cz CA (cz ze (.nil _)))) Tryz.func26
def Cp:List (Nat×Ann):=[(1,⟨[(0,.ref 2000 0),(1,.val tI),(10,.val (.slice aq)),(11,.val tI),(12,.val tI)],[(2000,SR)],[.ar bP],bg _⟩),
 (200001,⟨[],[(2000,SR)],[.ar bP],fun _=>0⟩)]
def jS:av:=⟨[.box [.val aH,.val (.slice aq),.map tI .hnd,.row 114 au,.row 44 bL,.val tI],.val tI,.ar bP],[],fun x=>fI x.1 x.2.1 x.2.2.1⟩
noncomputable def Er:Cx:=⟨tpr,[(26,qy),(65,uc)],[]⟩
theorem nV:FB 34 jS:=fbk Er Cp none (by intro x;kernel_rfl) (cz xB (cz Dz (.nil _))) Tryz.func34
def Lb:av:=⟨[.val aH,.val (.slice aq),.val tI,.ar bP],[.box [.val aH,.val (.slice aq),.map tI .hnd,.row 114 au,.row 44 bL,.val tI],.val tI],fun x=>Gc x.1 x.2.1 x.2.2.1 x.2.2.2.1⟩
noncomputable def UF:Cx:=⟨tpr,[(31,pG),(33,kQ),(34,jS),(39,oG)],[]⟩
theorem UU:FB 24 Lb:=fbk UF [] none (by intro x;kernel_rfl) (cz uR (cz oW (cz nV (cz q9 (.nil _))))) Tryz.func24
def GR:av:=⟨[.val aH,.val (.slice aq),.val tI,.ar bP],[.val .hnd,.val tI],fun x=>AD x.1 x.2.1 x.2.2.1 x.2.2.2.1⟩
noncomputable def Rt:Cx:=⟨tpr,[(31,pG),(33,kQ),(34,jS),(39,oG)],[]⟩
theorem RF:FB 24 GR:=fbk Rt [] none (by intro x;kernel_rfl) (cz uR (cz oW (cz nV (cz q9 (.nil _))))) Tryz.func24
def zO:List (Nat×Ann):=[(3,⟨[(0,.ref 2000 0),(3,.own 69 .hnd),(11,.rowR 11),(12,.val tI),(13,.val tI)],[(2000,MW)],[.rowC 11 3 tI,.rowC 10250004 114 au,.rowC 10250005 44 bL,.mapC 10250003 tI .hnd],bg _⟩),
 (200003,⟨[(3,.own 69 .hnd)],[(2000,MW)],[.rowC 10250004 114 au,.rowC 10250005 44 bL,.mapC 10250003 tI .hnd],fun _=>0⟩)]
def rQ:av:=⟨[.box [.val aH,.val (.slice aq),.map tI .hnd,.row 114 au,.row 44 bL,.val tI]],[.row 69 .hnd],fun x=>jJ x.1⟩
noncomputable def Bi:Cx:=⟨tpr,[],[(16,YJ),(56,YK)]⟩
theorem Bv:FB 25 rQ:=fbk Bi zO none (by intro x;kernel_rfl) (.WJ ab3 ab0 (.WJ ab5 ab1 (.nil _))) Tryz.func25
def J9:List (Nat×Ann):=[(7,⟨[(4,.ref 4 0),(8,.ref 8 0),(25,.rowR 62736),(26,.val tI),(27,.val tI)],[(4,yW),(8,yW)],[.rowC 62736 69 .hnd,.ar bP],bg _⟩),
 (200007,⟨[(4,.ref 4 0),(8,.ref 8 0)],[(4,yW),(8,yW)],[.ar bP],fun _=>0⟩)]
def CZ:av:=⟨[.val aH,.val (.slice aq)],[.val aH,.val tI],fun x=>wB x.1 x.2.1⟩
noncomputable def M8:Cx:=⟨tpr,[(24,GR),(24,Lb),(25,rQ),(26,qy)],[]⟩
theorem Nu:FB 7 CZ:=fbk M8 J9 (some bP) (by intro x;kernel_rfl) (cz RF (cz UU (cz Bv (cz xB (.nil _))))) Tryz.func7
def Jm:av:=⟨[.val aH,.val (.slice aq)],[.val tI],fun x=>Ja x.1 x.2.1⟩
noncomputable def Yr:Cx:=⟨tpr,[(20,u9),(23,u7)],[]⟩
theorem Qm:FB 27 Jm:=fbk Yr [] none (by intro x;kernel_rfl) (cz By (cz Bx (.nil _))) Tryz.func27
def ON:List (Nat×Ann):=[(1,⟨[(1,.ref 1 0),(2,.ref 2 0)],[(1,vr),(2,vr)],[],bg _⟩),
 (200001,⟨[(1,.ref 1 0),(2,.ref 2 0)],[(1,vr),(2,vr)],[],fun _=>0⟩)]
def rU:av:=⟨[.val au],[.val au],fun x=>fM x.1⟩
noncomputable def S7:Cx:=⟨tpr,[],[]⟩
theorem vW:FB 60 rU:=fbk S7 ON none (by intro x;kernel_rfl) (.nil _) Tryz.func60
def Rk:List (Nat×Ann):=[(3,⟨[(3,.val tI),(8,.val tI),(9,.val tI)],[],[],bg _⟩),
 (200003,⟨[(3,.val tI)],[],[],fun _=>0⟩)]
def yQ:av:=⟨[.val au],[.val tI],fun x=>nw x.1⟩
noncomputable def UM:Cx:=⟨tpr,[],[]⟩
theorem DF:FB 88 yQ:=fbk UM Rk none (by intro x;kernel_rfl) (.nil _) Tryz.func88
def AM:av:=⟨[.val au,.val au],[.val au],fun x=>jN x.1 x.2.1⟩
noncomputable def WN:Cx:=⟨tpr,[(60,rU),(88,yQ)],[]⟩
theorem FE:FB 90 AM:=fbk WN [] none (by intro x;kernel_rfl) (cz vW (cz DF (.nil _))) Tryz.func90
def D8:av:=⟨[.val au,.val au],[.val au],fun x=>BY x.1 x.2.1⟩
noncomputable def UN:Cx:=⟨tpr,[(90,AM)],[]⟩
theorem KK:FB 86 D8:=fbk UN [] none (by intro x;kernel_rfl) (cz FE (.nil _)) Tryz.func86
def AL:av:=⟨[.val gC],[.val au],fun x=>vE x.1⟩
noncomputable def WM:Cx:=⟨tpr,[(86,D8)],[]⟩
theorem FD:FB 87 AL:=fbk WM [] none (by intro x;kernel_rfl) (cz KK (.nil _)) Tryz.func87
def yd:av:=⟨[.val gC],[.val gC],fun x=>nx x.1⟩
noncomputable def O9:Cx:=⟨tpr,[(86,D8),(87,AL)],[]⟩
theorem ED:FB 61 yd:=fbk O9 [] none (by intro x;kernel_rfl) (cz KK (cz FD (.nil _))) Tryz.func61
def G8:List (Nat×Ann):=[(2,⟨[(1,.val tI),(10,.val (.slice aT)),(11,.val tI),(12,.val tI)],[],[],bg _⟩),
 (200002,⟨[],[],[],fun _=>0⟩)]
def nO:av:=⟨[.val (.ptr fh),.val tI],[.val tI],fun x=>kZ x.1 x.2.1⟩
noncomputable def Ki:Cx:=⟨tpr,[],[]⟩
theorem tq:FB 36 nO:=fbk Ki G8 none (by intro x;kernel_rfl) (.nil _) Tryz.func36
def C8:av:=⟨[.val (.ptr fh),.val gC],[.val tI],fun x=>wQ x.1 x.2.1⟩
noncomputable def Nd:Cx:=⟨tpr,[(88,yQ)],[]⟩
theorem Nx:FB 89 C8:=fbk Nd [] none (by intro x;kernel_rfl) (cz DF (.nil _)) Tryz.func89
def Fj:List (Nat×Ann):=[(100017,⟨[(0,.val (.ptr fh)),(5,.ref 5 0),(7,.ref 7 0),(8,.ref 8 0),(64,.val tI),(65,.val .bool)],[(5,eL),(7,Vy),(8,Vz)],[],fun _=>0⟩),
 (100022,⟨[(0,.val (.ptr fh)),(5,.ref 5 0),(7,.ref 7 0),(8,.ref 8 0),(64,.val tI),(72,.val .bool)],[(5,eL),(7,Vy),(8,Vz)],[],fun _=>0⟩),
 (300007,⟨[(37,.val .bool)],[],[],fun _=>0⟩),
 (300009,⟨[(51,.val .bool)],[],[],fun _=>0⟩),
 (300025,⟨[(121,.val .bool)],[],[],fun _=>0⟩)]
def zH:av:=⟨[.val (.ptr fh),.val tI],[.val tI],fun x=>qL x.1 x.2.1⟩
noncomputable def Ib:Cx:=⟨tpr,[(36,nO),(51,zI),(82,Ce),(87,AL),(88,yQ),(89,C8),(90,AM)],[]⟩
theorem Ir:FB 62 zH:=fbk Ib Fj none (by intro x;kernel_rfl) (cz tq (cz CD (cz Is (cz FD (cz DF (cz Nx (cz FE (.nil _)))))))) Tryz.func62
noncomputable def vP:Cx:=⟨tpr,[(60,rU)],[]⟩
noncomputable def tC:Code:=(Tryz.f92.body).getD .skip
theorem Eu:∀ (e:TypeId) (vs:List Value) (l:(List aa)) (ql:(List an)) (i:Nat),den vP [] tC (List CV×TypeId×(List an)) (FA Tryz.f92.ntmps 6 9 e aq aT vs l ql i) (Yz aT)=iX l ql i (fun q=>some (jV 6 9 aq l vs,e,q)):=by intro e vs l ql i;kernel_rfl
def YL:tg:= .elt 6 9 aq aT ga
theorem ab2:fe tpr 92:=jW Tryz.func92 rfl (by decide)
theorem ab6:Cs Tryz.prog 92 YL:=abX (X:=vP) (cz vW (.nil _)) (by kernel_rfl) (fn:=Tryz.f92) (c:=tC) 6 9 aq aT ga [] (by kernel_rfl) (by kernel_rfl) (by kernel_rfl) (by decide) (fun e vs l ql i=>(Eu e vs l ql i).trans (DV l ql i _))
def qQ:av:=⟨[.val (.slice bL)],[.row 44 bL],fun x=>gz x.1⟩
noncomputable def Ar:Cx:=⟨tpr,[],[]⟩
theorem Av:FB 93 qQ:=fbk Ar [] none (by intro x;kernel_rfl) (.nil _) Tryz.func93
def G7:List (Nat×Ann):=[(4,⟨[(0,.ref 2000 0),(1,.val tI),(4,.ref 4 0),(5,.val tI)],[(4,eL),(2000,Yo)],[.rowC 10250003 90 aT,.rowC 10250004 114 au],bg _⟩),
 (100003,⟨[(0,.ref 2000 0),(1,.val tI),(4,.ref 4 0),(5,.val tI)],[(4,eL),(2000,[.val .str,.val .str,.val .str,.val tI,.val tI,.val (.slice aJ),.val (.slice aq),.own 90 aT,.rowR 10250004])],[.rowC 10250004 114 au],fun _=>0⟩),
 (100010,⟨[(0,.ref 2000 0),(1,.val tI),(4,.ref 4 0),(7,.rpR 4000 19)],[(4,eL),(2000,SS)],[.rowC 4000 90 aT,.rowC 10250004 114 au],fun _=>0⟩),
 (100013,⟨[(0,.ref 2000 0),(1,.val tI),(4,.ref 4 0),(7,.rpR 4000 19),(82,.val tI),(83,.val .bool)],[(4,eL),(2000,SS)],[.rowC 4000 90 aT,.rowC 10250004 114 au],fun _=>0⟩),
 (100016,⟨[(1,.val tI),(7,.rpR 4000 19)],[(2000,SS)],[.rowC 4000 90 aT,.rowC 10250004 114 au],fun _=>0⟩),
 (200004,⟨[(0,.ref 2000 0),(1,.val tI),(4,.ref 4 0),(5,.val tI)],[(4,eL),(2000,Yo)],[.rowC 10250003 90 aT,.rowC 10250004 114 au],fun _=>0⟩),
 (300004,⟨[(41,.val .bool)],[],[],fun _=>0⟩)]
def Ah:av:=⟨[.box [.val aH,.val (.slice aq),.row 90 aT,.row 114 au],.val tI],[],fun x=>jc x.1 x.2.1⟩
noncomputable def Kh:Cx:=⟨tpr,[(36,nO),(60,rU),(61,yd),(87,AL),(90,AM),(91,je),(93,qQ)],[(92,YL),(100065,.own)]⟩
theorem Kq:FB 63 Ah:=fbk Kh G7 none (by intro x;kernel_rfl) (.WJ ab6 ab2 (.acy (cz tq (cz vW (cz ED (cz FD (cz FE (.cons qX qW (cz Av (.nil _)))))))))) Tryz.func63
def Uw:List (Nat×Ann):=[(3,⟨[(1,.val (.slice aq)),(2,.val tI),(7,.ref 17 0),(19,.val (.slice aJ)),(20,.val tI),(21,.val tI)],[(17,MX)],[],bg _⟩),
 (9,⟨[(2,.val tI),(7,.ref 17 0),(53,.val (.slice aq)),(54,.val tI),(55,.val tI)],[(17,MX)],[],bg _⟩),
 (200003,⟨[(1,.val (.slice aq)),(2,.val tI),(7,.ref 17 0)],[(17,MX)],[],fun _=>0⟩),
 (200009,⟨[(7,.ref 17 0)],[(17,MX)],[],fun _=>0⟩)]
def Jp:av:=⟨[.val aH,.val (.slice aq),.val tI],[.box [.val aH,.val (.slice aq),.row 90 aT,.row 114 au]],fun x=>Jd x.1 x.2.1 x.2.2.1⟩
noncomputable def Yt:Cx:=⟨tpr,[(60,rU),(61,yd),(62,zH),(63,Ah)],[]⟩
theorem Qn:FB 28 Jp:=fbk Yt Uw none (by intro x;kernel_rfl) (cz vW (cz ED (cz Ir (cz Kq (.nil _))))) Tryz.func28
def G9:List (Nat×Ann):=[(3,⟨[(3,.own 42 gC),(9,.val (.slice aT)),(10,.val tI),(11,.val tI)],[],[],bg _⟩),
 (200003,⟨[(3,.own 42 gC)],[],[],fun _=>0⟩)]
def Ai:av:=⟨[.val (.ptr fh)],[.row 42 gC],fun x=>sZ x.1⟩
noncomputable def Kj:Cx:=⟨tpr,[],[]⟩
theorem Kr:FB 29 Ai:=fbk Kj G9 none (by intro x;kernel_rfl) (.nil _) Tryz.func29
def OP:List (Nat×Ann):=[(7,⟨[(4,.ref 4 0),(7,.ref 7 0),(22,.rowR 56592),(23,.val tI),(24,.val tI)],[(4,yW),(7,yW)],[.rowC 56592 42 gC],bg _⟩),
 (200007,⟨[(4,.ref 4 0),(7,.ref 7 0)],[(4,yW),(7,yW)],[],fun _=>0⟩)]
def Jl:av:=⟨[.val aH,.val (.slice aq)],[.val aH,.val tI],fun x=>CN x.1 x.2.1⟩
noncomputable def Ta:Cx:=⟨tpr,[(27,Jm),(28,Jp),(29,Ai)],[]⟩
theorem Tp:FB 8 Jl:=fbk Ta OP none (by intro x;kernel_rfl) (cz Qm (cz Qn (cz Kr (.nil _)))) Tryz.func8
def zQ:List (Nat×Ann):=[(4,⟨[(0,.val (.slice aJ)),(1,.val (.slice aJ)),(12,.val tI),(13,.val tI)],[],[],bg _⟩),
 (200004,⟨[],[],[],fun _=>0⟩)]
def rW:av:=⟨[.val (.slice aJ),.val (.slice aJ)],[.val .bool],fun x=>jQ x.1 x.2.1⟩
noncomputable def Bk:Cx:=⟨tpr,[],[]⟩
theorem BB:FB 30 rW:=fbk Bk zQ none (by intro x;kernel_rfl) (.nil _) Tryz.func30
def Ka:List (Nat×Ann):=[(300001,⟨[(4,.val .bool)],[],[],fun _=>0⟩)]
def C7:av:=⟨[.val aH,.val aH],[.val .bool],fun x=>wP x.1 x.2.1⟩
noncomputable def Nc:Cx:=⟨tpr,[(30,rW)],[]⟩
theorem Nw:FB 9 C7:=fbk Nc Ka none (by intro x;kernel_rfl) (cz BB (.nil _)) Tryz.func9
def Ca:av:=⟨[.val aH,.val (.slice aq),.val tI],[.row 44 bL,.val tI],fun x=>uz x.1 x.2.1 x.2.2.1⟩
noncomputable def LD:Cx:=⟨tpr,[(31,pG),(32,gY),(33,kQ),(34,jS)],[]⟩
theorem LV:FB 10 Ca:=fbk LD [] (some bP) (by intro x;kernel_rfl) (cz uR (cz iZ (cz oW (cz nV (.nil _))))) Tryz.func10
def GW:av:=⟨[.val aH,.val (.slice aq),.val tI],[.val (.slice bL),.val tI],fun x=>AI x.1 x.2.1 x.2.2.1⟩
noncomputable def Rz:Cx:=⟨tpr,[(27,Jm),(28,Jp),(35,lG),(36,nO)],[]⟩
theorem RI:FB 11 GW:=fbk Rz [] none (by intro x;kernel_rfl) (cz Qm (cz Qn (cz nX (cz tq (.nil _))))) Tryz.func11
def yU:List (Nat×Ann):=[(4,⟨[(0,.val (.slice bL)),(1,.val (.slice bL)),(12,.val tI),(13,.val tI)],[],[],bg _⟩),
 (200004,⟨[],[],[],fun _=>0⟩)]
def qR:av:=⟨[.val (.slice bL),.val (.slice bL)],[.val .bool],fun x=>jk x.1 x.2.1⟩
noncomputable def As:Cx:=⟨tpr,[],[]⟩
theorem Aw:FB 12 qR:=fbk As yU none (by intro x;kernel_rfl) (.nil _) Tryz.func12
def kX:av:=⟨[.val .str,.val .str],[.val .bool],fun x=>mJ x.1 x.2.1⟩
noncomputable def tG:Cx:=⟨tpr,[],[]⟩
theorem tM:FB 171 kX:=fbk tG [] none (by intro x;kernel_rfl) (.nil _) Tryz.func171
def kV:av:=⟨[.val .str,.val .str],[.val .str,.val .bool],fun x=>mH x.1 x.2.1⟩
noncomputable def tE:Cx:=⟨tpr,[(171,kX)],[]⟩
theorem tK:FB 147 kV:=fbk tE [] none (by intro x;kernel_rfl) (cz tM (.nil _)) Tryz.func147
def xj:av:=⟨[.val .str,.val .str],[.val .str,.val .bool],fun x=>Am x.1 x.2.1⟩
noncomputable def Fs:Cx:=⟨tpr,[(147,kV)],[]⟩
theorem FG:FB 101 xj:=fbk Fs [] none (by intro x;kernel_rfl) (cz tK (.nil _)) Tryz.func101
def Ji:av:=⟨[.val .str],[.val (.slice .str),.val .bool],fun x=>Qx x.1⟩
noncomputable def SY:Cx:=⟨tpr,[(101,xj),(102,vf)],[]⟩
theorem Tl:FB 66 Ji:=fbk SY [] none (by intro x;kernel_rfl) (cz FG (.cons BN BE (.nil _))) Tryz.func66
def OM:List (Nat×Ann):=[(3,⟨[(4,.rowR 27920),(9,.rowR 27920),(10,.val tI),(11,.val tI)],[],[.rowC 27920 9 .str],bg _⟩),
 (200003,⟨[(4,.rowR 27920)],[],[.rowC 27920 9 .str],fun _=>0⟩)]
def Jj:av:=⟨[.val .str],[.val (.slice .str),.val .bool],fun x=>Qy x.1⟩
noncomputable def SZ:Cx:=⟨tpr,[(102,vf)],[]⟩
theorem Tm:FB 103 Jj:=fbk SZ OM none (by intro x;kernel_rfl) (.cons BN BE (.nil _)) Tryz.func103
def iY:av:=⟨[.box [.val (.slice .str),.val .bool]],[.val .str],fun x=>jb x.1⟩
noncomputable def Hj:Cx:=⟨tpr,[],[]⟩
theorem lR:FB 109 iY:=fbk Hj [] none (by intro x;kernel_rfl) (.nil _) Tryz.func109
def vJ:av:=⟨[.box [.val (.slice .str),.val .bool]],[.val tI],fun x=>gU x.1⟩
noncomputable def Es:Cx:=⟨tpr,[(109,iY),(149,GP)],[]⟩
theorem EC:FB 104 vJ:=fbk Es [] none (by intro x;kernel_rfl) (cz lR (.cons RR RL (.nil _))) Tryz.func104
def Cb:av:=⟨[],[.val (.slice .str)],fun _=>GL⟩
noncomputable def LF:Cx:=⟨tpr,[],[]⟩
theorem LW:FB 106 Cb:=fbk LF [] none (by intro x;kernel_rfl) (.nil _) Tryz.func106
def Bc:List (Nat×Ann):=[(2,⟨[(0,.val (.slice .str)),(1,.val .str),(7,.val tI),(8,.val tI)],[],[],bg _⟩),
 (200002,⟨[],[],[],fun _=>0⟩)]
def uj:av:=⟨[.val (.slice .str),.val .str],[.val tI],fun x=>xI x.1 x.2.1⟩
noncomputable def Dx:Cx:=⟨tpr,[],[]⟩
theorem DG:FB 150 uj:=fbk Dx Bc none (by intro x;kernel_rfl) (.nil _) Tryz.func150
def xe:av:=⟨[.box [.val (.slice .str),.val .bool],.val (.slice .str)],[.val tI],fun x=>tu x.1 x.2.1⟩
noncomputable def Fp:Cx:=⟨tpr,[(109,iY),(150,uj)],[]⟩
theorem FC:FB 105 xe:=fbk Fp [] none (by intro x;kernel_rfl) (cz lR (cz DG (.nil _))) Tryz.func105
def zE:av:=⟨[],[.val (.slice .str)],fun _=>CL⟩
noncomputable def HX:Cx:=⟨tpr,[],[]⟩
theorem Im:FB 107 zE:=fbk HX [] none (by intro x;kernel_rfl) (.nil _) Tryz.func107
def kW:av:=⟨[.val .str,.val .str],[.val .bool],fun x=>mI x.1 x.2.1⟩
noncomputable def tF:Cx:=⟨tpr,[],[]⟩
theorem tL:FB 207 kW:=fbk tF [] none (by intro x;kernel_rfl) (.nil _) Tryz.func207
def kU:av:=⟨[.val .str,.val .str],[.val .str,.val .bool],fun x=>mG x.1 x.2.1⟩
noncomputable def tD:Cx:=⟨tpr,[(207,kW)],[]⟩
theorem tJ:FB 192 kU:=fbk tD [] none (by intro x;kernel_rfl) (cz tL (.nil _)) Tryz.func192
def xh:av:=⟨[.val .str,.val .str],[.val .str,.val .bool],fun x=>Al x.1 x.2.1⟩
noncomputable def Fq:Cx:=⟨tpr,[(192,kU)],[]⟩
theorem FF:FB 177 xh:=fbk Fq [] none (by intro x;kernel_rfl) (cz tJ (.nil _)) Tryz.func177
def nD:av:=⟨[.val .str,.val .str],[.val tI],fun x=>pQ x.1 x.2.1⟩
noncomputable def xw:Cx:=⟨tpr,[(200,gA)],[]⟩
theorem xz:FB 188 nD:=fbk xw [] none (by intro x;kernel_rfl) (.cons tP tO (.nil _)) Tryz.func188
def oN:av:=⟨[.val .str,.val .str],[.val .str,.val .str,.val .bool],fun x=>rj x.1 x.2.1⟩
noncomputable def yX:Cx:=⟨tpr,[(188,nD)],[]⟩
theorem za:FB 193 oN:=fbk yX [] none (by intro x;kernel_rfl) (cz xz (.nil _)) Tryz.func193
def EX:av:=⟨[.val .str,.val .str],[.val .str,.val .str,.val .bool],fun x=>Ll x.1 x.2.1⟩
noncomputable def Pb:Cx:=⟨tpr,[(193,oN)],[]⟩
theorem Pj:FB 178 EX:=fbk Pb [] none (by intro x;kernel_rfl) (cz za (.nil _)) Tryz.func178
def GZ:List (Nat×Ann):=[(300001,⟨[(2,.val .bool)],[],[],fun _=>0⟩)]
def Af:av:=⟨[.val .str],[.val .bool],fun x=>Ec x.1⟩
noncomputable def Kf:Cx:=⟨tpr,[(175,jR)],[]⟩
theorem Ko:FB 179 Af:=fbk Kf GZ none (by intro x;kernel_rfl) (.cons wz CF (.nil _)) Tryz.func179
def Fk:List (Nat×Ann):=[(3,⟨[(2,.ref 2 0),(3,.ref 3 0),(4,.ref 4 0),(5,.rowR 18),(20,.val (.slice (.int .u32))),(21,.val tI),(22,.val tI)],[(2,jl),(3,jl),(4,vN)],[.rowC 18 181 (.int .u32)],bg _⟩),
 (7,⟨[(2,.ref 2 0),(3,.ref 3 0),(4,.ref 4 0),(5,.rowR 18),(6,.val tI),(7,.val (.int .u32)),(8,.val (.int .u64)),(20,.val (.slice (.int .u32))),(21,.val tI),(22,.val tI),(28,.val (.slice (.int .u32))),(29,.val tI),(30,.val tI)],[(2,jl),(3,jl),(4,vN)],[.rowC 18 181 (.int .u32)],bg _⟩),
 (200003,⟨[(2,.ref 2 0),(3,.ref 3 0),(4,.ref 4 0),(5,.rowR 18)],[(2,jl),(3,jl),(4,vN)],[.rowC 18 181 (.int .u32)],fun _=>0⟩),
 (200007,⟨[(2,.ref 2 0),(3,.ref 3 0),(4,.ref 4 0),(5,.rowR 18),(6,.val tI),(8,.val (.int .u64)),(20,.val (.slice (.int .u32))),(21,.val tI),(22,.val tI)],[(2,jl),(3,jl),(4,vN)],[.rowC 18 181 (.int .u32)],fun _=>0⟩)]
def zJ:av:=⟨[.val dw,.val dw],[.val dw],fun x=>Df x.1 x.2.1⟩
noncomputable def Ie:Cx:=⟨tpr,[(144,mo)],[]⟩
theorem It:FB 194 zJ:=fbk Ie Fk none (by intro x;kernel_rfl) (cz pP (.nil _)) Tryz.func194
def Ak:av:=⟨[.val dw,.val dw],[.val dw],fun x=>Fa x.1 x.2.1⟩
noncomputable def Kl:Cx:=⟨tpr,[(144,mo),(165,EY),(167,vg),(168,Ab)],[]⟩
theorem Kt:FB 195 Ak:=fbk Kl [] none (by intro x;kernel_rfl) (cz pP (cz Pk (cz BC (cz GH (.nil _))))) Tryz.func195
def Ls:List (Nat×Ann):=[(3,⟨[(0,.val .bool),(1,.val .str),(2,.val .str),(6,.ref 6 0),(8,.ref 8 0),(14,.val tI),(15,.val tI)],[(6,vr),(8,jl)],[],bg _⟩),
 (200003,⟨[(0,.val .bool),(2,.val .str),(6,.ref 6 0),(8,.ref 8 0)],[(6,vr),(8,jl)],[],fun _=>0⟩)]
def EV:av:=⟨[.val .bool,.val .str,.val .str],[.val au,.val tI],fun x=>Kw x.1 x.2.1 x.2.2.1⟩
noncomputable def OY:Cx:=⟨tpr,[(85,yR),(141,tw),(142,rX),(143,yb),(194,zJ),(195,Ak)],[]⟩
theorem Pg:FB 180 EV:=fbk OY Ls none (by intro x;kernel_rfl) (cz DH (cz Ad (cz zg (cz Ey (cz It (cz Kt (.nil _))))))) Tryz.func180
def Fg:List (Nat×Ann):=[(300003,⟨[(40,.val .bool)],[],[],fun _=>0⟩)]
def zC:av:=⟨[.val .str],[.val au,.val tI],fun x=>Ct x.1⟩
noncomputable def HS:Cx:=⟨tpr,[(175,jR),(177,xh),(178,EX),(179,Af),(180,EV)],[]⟩
theorem Ik:FB 151 zC:=fbk HS Fg none (by intro x;kernel_rfl) (.cons wz CF (cz FF (cz Pj (cz Ko (cz Pg (.nil _)))))) Tryz.func151
def uh:av:=⟨[.box [.val (.slice .str),.val .bool]],[.val au],fun x=>qu x.1⟩
noncomputable def Dw:Cx:=⟨tpr,[(109,iY),(151,zC)],[]⟩
theorem DD:FB 110 uh:=fbk Dw [] none (by intro x;kernel_rfl) (cz lR (cz Ik (.nil _))) Tryz.func110
def G6:List (Nat×Ann):=[(100008,⟨[(2,.ref 2 0),(6,.ref 19 0),(7,.ref 7 0),(8,.ref 8 0)],[(2,eL),(7,eL),(8,HO),(19,Ek)],[],fun _=>0⟩),
 (100010,⟨[(2,.ref 2 0),(6,.ref 19 0),(7,.ref 7 0),(8,.ref 8 0)],[(2,eL),(7,eL),(8,HO),(19,Ek)],[],fun _=>0⟩),
 (100012,⟨[(2,.ref 2 0),(6,.ref 19 0),(7,.ref 7 0),(8,.ref 8 0)],[(2,eL),(7,eL),(8,HO),(19,Ek)],[],fun _=>0⟩),
 (100014,⟨[(2,.ref 2 0),(6,.ref 19 0),(7,.ref 7 0),(8,.ref 8 0)],[(2,eL),(7,eL),(8,HO),(19,Ek)],[],fun _=>0⟩),
 (100016,⟨[(2,.ref 2 0),(6,.ref 19 0),(7,.ref 7 0),(8,.ref 8 0)],[(2,eL),(7,eL),(8,HO),(19,Ek)],[],fun _=>0⟩),
 (100018,⟨[(2,.ref 2 0),(6,.ref 19 0),(7,.ref 7 0)],[(2,eL),(7,eL),(19,Ek)],[],fun _=>0⟩)]
def Ag:av:=⟨[.val .str],[.val aq,.val .bool],fun x=>EN x.1⟩
noncomputable def Kg:Cx:=⟨tpr,[(103,Jj),(104,vJ),(105,xe),(106,Cb),(107,zE),(108,xb),(109,iY),(110,uh)],[]⟩
theorem Kp:FB 67 Ag:=fbk Kg G6 none (by intro x;kernel_rfl) (cz Tm (cz EC (cz FC (cz LW (cz Im (cz CB (cz lR (cz DD (.nil _))))))))) Tryz.func67
def MI:List (Nat×Ann):=[(6,⟨[(5,.val (.slice .str)),(6,.val .bool),(7,.own 33 aq),(21,.val (.slice .str)),(22,.val tI),(23,.val tI)],[],[],bg _⟩),
 (200006,⟨[(7,.own 33 aq)],[],[],fun _=>0⟩),
 (300009,⟨[(45,.val .bool)],[],[],fun _=>0⟩)]
def GQ:av:=⟨[.val .str],[.row 33 aq,.val tI,.val tI],fun x=>N8 x.1⟩
noncomputable def Rs:Cx:=⟨tpr,[(19,lX),(66,Ji),(67,Ag)],[]⟩
theorem RE:FB 37 GQ:=fbk Rs MI none (by intro x;kernel_rfl) (cz lQ (cz Tl (cz Kp (.nil _)))) Tryz.func37
def Rh:List (Nat×Ann):=[(300002,⟨[(0,.val .bool)],[],[],fun _=>0⟩)]
def La:av:=⟨[],[.val .bool],fun _=>Me⟩
noncomputable def UE:Cx:=⟨tpr,[(37,GQ)],[]⟩
theorem UT:FB 13 La:=fbk UE Rh none (by intro x;kernel_rfl) (cz RE (.nil _)) Tryz.func13
end Go.Proofs.SeatA
set_option maxRecDepth 100000
namespace Go.Proofs.SeatA
open Go.Dn Go.Md Go.Proofs
def xu:List (Nat×Ann):=[(300011,⟨[(8,.val .bool)],[],[],fun _=>0⟩)]
def oO:av:=⟨[.val aH,.val aH,.val (.slice aq),.val tI],[.val .bool],fun x=>iu x.1 x.2.1 x.2.2.1 x.2.2.2.1⟩
noncomputable def yY:Cx:=⟨tpr,[(4,B9),(5,GV),(6,rV),(7,CZ),(8,Jl),(9,C7),(10,Ca),(11,GW),(12,qR),(13,La)],[]⟩
theorem xO:ME yY xu none Tryz.f3 oO:=by intro x;kernel_rfl
theorem zm:ig tpr 3 oO:=Bn xO (.cons Mh L9 (cz RH (cz BA (cz Nu (cz Tp (cz Nw (cz LV (cz RI (cz Aw (cz UT (.nil _))))))))))) NX Tryz.func3
end Go.Proofs.SeatA
end
