/-
  Each function that the law reaches is as its plain model says, a further part. No condition.
-/
import Derived.Test.YtfeonoiibclkiabGreatDoorYw
set_option linter.all false
set_option maxRecDepth 100000
noncomputable section
namespace Go.Proofs.SeatU
open Go.Dn Go.Md Go.Proofs
def zS:List CK:=[.val .bool,.own 148 (.int .u32)]
def tJ:List CK:=[.val .bool,.val (.slice (.int .u32))]
def M5:List CK:=[.val .str,.val .bool,.val (.slice bu),.val (.slice bu)]
def L8:List (Nat×Ann):=[(100003,⟨[(0,.val tI),(2,.ref 2 0),(3,.val (.int .u64))],[(2,zS)],[],fun _=>0⟩)]
def nF:aB:=⟨[.val tI],[.val aA],fun x=>nG x.1⟩
noncomputable def Og:Cx:=⟨tpr,[(89,jI)],[]⟩
theorem Na:aS Og L8 none Tryz.f45 nF:=by intro x;kernel_rfl
theorem tP:av tpr 45:=an Tryz.func45 rfl (by decide)
theorem tV:aH tpr 45 nF:=aJ Na (.cons qu qo (.nil _)) aN Tryz.func45
def Cz:List (Nat×Ann):=[(3,⟨[(2,.ref 2 0),(3,.ref 3 0),(4,.ref 4 0),(5,.rowR 18),(20,.val (.slice (.int .u32))),(21,.val tI),(22,.val tI)],[(2,tJ),(3,tJ),(4,zS)],[.rowC 18 148 (.int .u32)],aY _⟩),
 (7,⟨[(2,.ref 2 0),(3,.ref 3 0),(4,.ref 4 0),(5,.rowR 18),(6,.val tI),(7,.val (.int .u32)),(8,.val (.int .u64)),(20,.val (.slice (.int .u32))),(21,.val tI),(22,.val tI),(28,.val (.slice (.int .u32))),(29,.val tI),(30,.val tI)],[(2,tJ),(3,tJ),(4,zS)],[.rowC 18 148 (.int .u32)],aY _⟩),
 (200003,⟨[(2,.ref 2 0),(3,.ref 3 0),(4,.ref 4 0),(5,.rowR 18)],[(2,tJ),(3,tJ),(4,zS)],[.rowC 18 148 (.int .u32)],fun _=>0⟩),
 (200007,⟨[(2,.ref 2 0),(3,.ref 3 0),(4,.ref 4 0),(5,.rowR 18),(6,.val tI),(8,.val (.int .u64)),(20,.val (.slice (.int .u32))),(21,.val tI),(22,.val tI)],[(2,tJ),(3,tJ),(4,zS)],[.rowC 18 148 (.int .u32)],fun _=>0⟩)]
def ng:aB:=⟨[.val aA,.val aA],[.val aA],fun x=>ni x.1 x.2.1⟩
noncomputable def E6:Cx:=⟨tpr,[(89,jI)],[]⟩
theorem Ek:aS E6 Cz none Tryz.f93 ng:=by intro x;kernel_rfl
theorem xS:av tpr 93:=an Tryz.func93 rfl (by decide)
theorem x5:aH tpr 93 ng:=aJ Ek (.cons qu qo (.nil _)) aN Tryz.func93
def HP:List (Nat×Ann):=[(3,⟨[(2,.ref 2 0),(3,.ref 3 0),(5,.val tI),(6,.val tI)],[(2,zS),(3,tJ)],[],aY _⟩),
 (200003,⟨[(2,.ref 2 0),(3,.ref 3 0)],[(2,zS),(3,tJ)],[],fun _=>0⟩)]
def xg:aB:=⟨[.val tI],[.val aA],fun x=>xH x.1⟩
noncomputable def Ku:Cx:=⟨tpr,[(45,nF),(93,ng)],[]⟩
theorem Jk:aS Ku HP none Tryz.f94 xg:=by intro x;kernel_rfl
theorem KJ:av tpr 94:=an Tryz.func94 rfl (by decide)
theorem K2:aH tpr 94 xg:=aJ Jk (.cons tV tP (.cons x5 xS (.nil _))) aN Tryz.func94
def pQ:aB:=⟨[.val cz,.val tI],[.val aA],fun x=>gm x.1 x.2.1⟩
noncomputable def HU:Cx:=⟨tpr,[(45,nF),(93,ng),(94,xg)],[]⟩
theorem GN:aS HU [] none Tryz.f47 pQ:=by intro x;kernel_rfl
theorem Ab:av tpr 47:=an Tryz.func47 rfl (by decide)
theorem Ak:aH tpr 47 pQ:=aJ GN (.cons tV tP (.cons x5 xS (.cons K2 KJ (.nil _)))) aN Tryz.func47
def mY:aB:=⟨[.val cz],[.val aA],fun x=>vC x.1⟩
noncomputable def I8:Cx:=⟨tpr,[(47,pQ)],[]⟩
theorem H8:aS I8 [] none Tryz.f35 mY:=by intro x;kernel_rfl
theorem vN:av tpr 35:=an Tryz.func35 rfl (by decide)
theorem vU:aH tpr 35 mY:=aJ H8 (.cons Ak Ab (.nil _)) aN Tryz.func35
def jD:List (Nat×Ann):=[(3,⟨[(0,.val (.slice bu)),(2,.val (.clo 64 .unit)),(4,.ref 4 0),(8,.val tI),(9,.val tI),(10,.val tI)],[(4,[.val .str,.val .str,.val .str,.val tI,.val tI])],[],aY _⟩),
 (200003,⟨[(0,.val (.slice bu)),(2,.val (.clo 64 .unit)),(4,.ref 4 0),(8,.val tI),(9,.val tI)],[(4,[.val .str,.val .str,.val .str,.val tI,.val tI])],[],fun _=>0⟩)]
def cH:aB:=⟨[.val (.slice bu),.val bu,.val (.clo 64 .unit)],[.val tI,.val .bool],fun x=>fM x.1 x.2.1 x.2.2.1⟩
noncomputable def jX:Cx:=⟨tpr,[(64,gP)],[]⟩
theorem jK:aS jX jD none Tryz.f106 cH:=by intro x;kernel_rfl
theorem jZ:av tpr 106:=an Tryz.func106 rfl (by decide)
theorem kg:aH tpr 106 cH:=aJ jK (.cons rz ry (.nil _)) aN Tryz.func106
def pV:aB:=⟨[.val (.slice bu),.val bu],[.val aA],fun x=>yQ x.1 x.2.1⟩
noncomputable def CG:Cx:=⟨tpr,[(35,mY),(45,nF),(106,cH)],[]⟩
theorem B2:aS CG [] none Tryz.f67 pV:=by intro x;kernel_rfl
theorem C7:av tpr 67:=an Tryz.func67 rfl (by decide)
theorem Dq:aH tpr 67 pV:=aJ B2 (.cons vU vN (.cons tV tP (.cons kg jZ (.nil _)))) aN Tryz.func67
def nc:aB:=⟨[.val aA],[.val aA],fun x=>nh x.1⟩
noncomputable def E5:Cx:=⟨tpr,[(89,jI)],[]⟩
theorem Ej:aS E5 [] none Tryz.f107 nc:=by intro x;kernel_rfl
theorem xR:av tpr 107:=an Tryz.func107 rfl (by decide)
theorem x4:aH tpr 107 nc:=aJ Ej (.cons qu qo (.nil _)) aN Tryz.func107
def Kl:List (Nat×Ann):=[(6,⟨[(1,.val (.slice (.int .u32))),(5,.own 148 (.int .u32)),(6,.val (.int .u64)),(20,.val (.slice (.int .u32))),(21,.val tI),(22,.val tI)],[],[],aY _⟩),
 (100002,⟨[(0,.val (.slice (.int .u32))),(1,.val (.slice (.int .u32)))],[],[],fun _=>0⟩),
 (100010,⟨[(1,.val (.slice (.int .u32))),(5,.own 148 (.int .u32)),(6,.val (.int .u64)),(20,.val (.slice (.int .u32))),(21,.val tI),(22,.val tI)],[],[],fun _=>0⟩),
 (200006,⟨[(5,.own 148 (.int .u32)),(6,.val (.int .u64))],[],[],fun _=>0⟩)]
def AH:aB:=⟨[.val (.slice (.int .u32)),.val (.slice (.int .u32))],[.row 148 (.int .u32)],fun x=>yf x.1 x.2.1⟩
noncomputable def M9:Cx:=⟨tpr,[],[]⟩
theorem Ml:aS M9 Kl none Tryz.f90 AH:=by intro x;kernel_rfl
theorem No:av tpr 90:=an Tryz.func90 rfl (by decide)
theorem NI:aH tpr 90 AH:=aJ Ml (.nil _) aN Tryz.func90
def HQ:List (Nat×Ann):=[(6,⟨[(1,.val (.slice (.int .u32))),(5,.own 148 (.int .u32)),(6,.val (.int .u64)),(20,.val (.slice (.int .u32))),(21,.val tI),(22,.val tI)],[],[],aY _⟩),
 (100002,⟨[(0,.val (.slice (.int .u32))),(1,.val (.slice (.int .u32)))],[],[],fun _=>0⟩),
 (100010,⟨[(1,.val (.slice (.int .u32))),(5,.own 148 (.int .u32)),(6,.val (.int .u64)),(20,.val (.slice (.int .u32))),(21,.val tI),(22,.val tI)],[],[],fun _=>0⟩),
 (200006,⟨[(5,.own 148 (.int .u32)),(6,.val (.int .u64))],[],[],fun _=>0⟩)]
def xh:aB:=⟨[.val (.slice (.int .u32)),.val (.slice (.int .u32))],[.val (.slice (.int .u32))],fun x=>BJ x.1 x.2.1⟩
noncomputable def Kv:Cx:=⟨tpr,[],[]⟩
theorem Jl:aS Kv HQ none Tryz.f90 xh:=by intro x;kernel_rfl
theorem KK:av tpr 90:=an Tryz.func90 rfl (by decide)
theorem K3:aH tpr 90 xh:=aJ Jl (.nil _) aN Tryz.func90
def EK:List (Nat×Ann):=[(4,⟨[(0,.val (.slice (.int .u32))),(1,.val (.slice (.int .u32))),(5,.val tI)],[],[],aY _⟩),
 (200004,⟨[],[],[],fun _=>0⟩)]
def pX:aB:=⟨[.val (.slice (.int .u32)),.val (.slice (.int .u32))],[.val tI],fun x=>qz x.1 x.2.1⟩
noncomputable def H6:Cx:=⟨tpr,[],[]⟩
theorem GU:aS H6 EK none Tryz.f91 pX:=by intro x;kernel_rfl
theorem Ag:av tpr 91:=an Tryz.func91 rfl (by decide)
theorem Aq:aH tpr 91 pX:=aJ GU (.nil _) aN Tryz.func91
def IZ:List (Nat×Ann):=[(4,⟨[(1,.val (.slice (.int .u32))),(5,.own 148 (.int .u32)),(6,.val (.int .u64)),(13,.val (.slice (.int .u32))),(14,.val tI),(15,.val tI)],[],[],aY _⟩),
 (100008,⟨[(1,.val (.slice (.int .u32))),(5,.own 148 (.int .u32)),(9,.val (.int .u64)),(13,.val (.slice (.int .u32))),(14,.val tI),(15,.val tI)],[],[],fun _=>0⟩),
 (200004,⟨[(5,.own 148 (.int .u32))],[],[],fun _=>0⟩)]
def uC:aB:=⟨[.val (.slice (.int .u32)),.val (.slice (.int .u32))],[.val (.slice (.int .u32))],fun x=>s5 x.1 x.2.1⟩
noncomputable def Mh:Cx:=⟨tpr,[(121,lz)],[]⟩
theorem Kz:aS Mh IZ none Tryz.f92 uC:=by intro x;kernel_rfl
theorem DS:av tpr 92:=an Tryz.func92 rfl (by decide)
theorem DX:aH tpr 92 uC:=aJ Kz (.cons uS uP (.nil _)) aN Tryz.func92
def nP:aB:=⟨[.val aA,.val aA],[.val aA],fun x=>gN x.1 x.2.1⟩
noncomputable def GK:Cx:=⟨tpr,[(89,jI),(90,xh),(91,pX),(92,uC)],[]⟩
theorem Fg:aS GK [] none Tryz.f46 nP:=by intro x;kernel_rfl
theorem yI:av tpr 46:=an Tryz.func46 rfl (by decide)
theorem yM:aH tpr 46 nP:=aJ Fg (.cons qu qo (.cons K3 KK (.cons Aq Ag (.cons DX DS (.nil _))))) aN Tryz.func46
def tw:aB:=⟨[.val aA,.val aA],[.val aA],fun x=>Ct x.1 x.2.1⟩
noncomputable def GJ:Cx:=⟨tpr,[(46,nP),(107,nc)],[]⟩
theorem Ff:aS GJ [] none Tryz.f68 tw:=by intro x;kernel_rfl
theorem G6:av tpr 68:=an Tryz.func68 rfl (by decide)
theorem Hg:aH tpr 68 tw:=aJ Ff (.cons yM yI (.cons x4 xR (.nil _))) aN Tryz.func68
def nQ:aB:=⟨[.val aA],[.val tI],fun x=>iR x.1⟩
noncomputable def GL:Cx:=⟨tpr,[],[]⟩
theorem Fh:aS GL [] none Tryz.f69 nQ:=by intro x;kernel_rfl
theorem yJ:av tpr 69:=an Tryz.func69 rfl (by decide)
theorem yN:aH tpr 69 nQ:=aJ Fh (.nil _) aN Tryz.func69
def pW:aB:=⟨[.val aA,.val aA],[.val tI],fun x=>yR x.1 x.2.1⟩
noncomputable def CI:Cx:=⟨tpr,[(68,tw),(69,nQ)],[]⟩
theorem B3:aS CI [] none Tryz.f103 pW:=by intro x;kernel_rfl
theorem C8:av tpr 103:=an Tryz.func103 rfl (by decide)
theorem Dr:aH tpr 103 pW:=aJ B3 (.cons Hg G6 (.cons yN yJ (.nil _))) aN Tryz.func103
def BP:List (Nat×Ann):=[(9,⟨[(5,.ref 5 0),(51,.rowR 51),(52,.val tI),(53,.val tI)],[(5,M5)],[.rowC 51 45 (.slice bu)],aY _⟩),
 (16,⟨[(5,.ref 5 0),(64,.val (.slice bu)),(65,.val tI),(66,.val tI)],[(5,M5)],[],aY _⟩),
 (200009,⟨[(5,.ref 5 0)],[(5,M5)],[],fun _=>0⟩),
 (200016,⟨[],[],[],fun _=>0⟩),
 (300004,⟨[(20,.val .bool)],[],[],fun _=>0⟩),
 (300006,⟨[(34,.val .bool)],[],[],fun _=>0⟩)]
def rf:aB:=⟨[.val (.slice bE),.val tI],[.val tI],fun x=>pK x.1 x.2.1⟩
noncomputable def Eb:Cx:=⟨tpr,[(35,mY),(67,pV),(100,nO),(102,iD),(103,pW)],[]⟩
theorem CQ:aS Eb BP none Tryz.f58 rf:=by intro x;kernel_rfl
theorem Eo:av tpr 58:=an Tryz.func58 rfl (by decide)
theorem Eu:aH tpr 58 rf:=aJ CQ (.cons vU vN (.cons Dq C7 (.cons yL yH (.cons s8 s7 (.cons Dr C8 (.nil _)))))) aN Tryz.func58
def Bo:List (Nat×Ann):=[(4,⟨[(0,.val (.slice bE)),(9,.val tI),(10,.val tI)],[],[],aY _⟩),
 (200004,⟨[],[],[],fun _=>0⟩)]
def kF:aB:=⟨[.val (.slice bE)],[.val tI],fun x=>jQ x.1⟩
noncomputable def CC:Cx:=⟨tpr,[(58,rf)],[]⟩
theorem BY:aS CC Bo none Tryz.f29 kF:=by intro x;kernel_rfl
theorem vO:av tpr 29:=an Tryz.func29 rfl (by decide)
theorem vV:aH tpr 29 kF:=aJ BY (.cons Eu Eo (.nil _)) aN Tryz.func29
def l6:aB:=⟨[.val bF,.val (.slice bE)],[.box [.val bF,.val (.slice bE)],.val tI],fun x=>kY x.1 x.2.1⟩
noncomputable def D9:Cx:=⟨tpr,[(28,gL),(29,kF)],[]⟩
theorem CO:aS D9 [] none Tryz.f10 l6:=by intro x;kernel_rfl
theorem wE:av tpr 10:=an Tryz.func10 rfl (by decide)
theorem wG:aH tpr 10 l6:=aJ CO (.cons nY nV (.cons vV vO (.nil _))) aN Tryz.func10
def jB:aB:=⟨[.val bF,.val (.slice bE)],[.val .hnd,.val tI],fun x=>fH x.1 x.2.1⟩
noncomputable def BW:Cx:=⟨tpr,[(28,gL),(29,kF)],[]⟩
theorem Bw:aS BW [] none Tryz.f10 jB:=by intro x;kernel_rfl
theorem vm:av tpr 10:=an Tryz.func10 rfl (by decide)
theorem vo:aH tpr 10 jB:=aJ Bw (.cons nY nV (.cons vV vO (.nil _))) aN Tryz.func10
def lq:aB:=⟨[.val bE,.val .str],[.val tI],fun x=>om x.1 x.2.1⟩
noncomputable def zV:Cx:=⟨tpr,[(19,gM)],[]⟩
theorem ze:aS zV [] none Tryz.f53 lq:=by intro x;kernel_rfl
theorem Ae:av tpr 53:=an Tryz.func53 rfl (by decide)
theorem Ao:aH tpr 53 lq:=aJ ze (.cons mM mH (.nil _)) aN Tryz.func53
def nt:List (Nat×Ann):=[(3,⟨[(0,.val (.slice bE)),(1,.val .str),(2,.val (.clo 53 .unit)),(8,.val tI),(9,.val tI),(10,.val tI)],[],[],aY _⟩),
 (200003,⟨[(0,.val (.slice bE)),(1,.val .str),(2,.val (.clo 53 .unit)),(8,.val tI),(9,.val tI)],[],[],fun _=>0⟩)]
def cw:aB:=⟨[.val (.slice bE),.val .str,.val (.clo 53 .unit)],[.val tI,.val .bool],fun x=>bZ x.1 x.2.1 x.2.2.1⟩
noncomputable def nT:Cx:=⟨tpr,[(53,lq)],[]⟩
theorem nI:aS nT nt none Tryz.f52 cw:=by intro x;kernel_rfl
theorem gE:av tpr 52:=an Tryz.func52 rfl (by decide)
theorem gG:aH tpr 52 cw:=aJ nI (.cons Ao Ae (.nil _)) aN Tryz.func52
def nE:aB:=⟨[.val (.ptr iQ),.val .str],[.val bE,.val .bool],fun x=>fW x.1 x.2.1⟩
noncomputable def Bt:Cx:=⟨tpr,[(52,cw)],[]⟩
theorem AW:aS Bt [] none Tryz.f27 nE:=by intro x;kernel_rfl
theorem BA:av tpr 27:=an Tryz.func27 rfl (by decide)
theorem BF:aH tpr 27 nE:=aJ AW (.cons gG gE (.nil _)) aN Tryz.func27
def lu:aB:=⟨[.box [.val bF,.val (.slice bE)],.val .str],[.val bE,.val .bool],fun x=>fD x.1 x.2.1⟩
noncomputable def zW:Cx:=⟨tpr,[(52,cw)],[]⟩
theorem zf:aS zW [] none Tryz.f27 lu:=by intro x;kernel_rfl
theorem Af:av tpr 27:=an Tryz.func27 rfl (by decide)
theorem Ap:aH tpr 27 lu:=aJ zf (.cons gG gE (.nil _)) aN Tryz.func27
def cL:List PM:=[.val (.ptr iQ),.val tI]
def eS:List RM:=[.val .bool]
noncomputable def s6:List (Nat×aB):=[(27,nE),(30,fJ)]
def iZ:aB:=⟨cL,eS,fun x=>dK x.1 x.2.1⟩
theorem AV:∀ (self:cZ cL→Option (b8 cL eS)) (x:cZ cL),E7 ⟨tpr,(12,⟨cL,eS,self⟩)::s6,[]⟩ [] none Tryz.f12 ⟨cL,eS,fun x=>bT self x.1 x.2.1⟩ x=bT self x.1 x.2.1:=by intro self x;kernel_rfl
theorem iV:av tpr 12:=an Tryz.func12 rfl (by decide)
theorem ny:aH tpr 12 iZ:=Ht (ps:=cL) (rs:=eS) (m:=fun n x=>wg (fun self x=>bT self x.1 x.2.1) n x) (C1 (P:=Tryz.prog) (specs:=s6) (ps:=cL) (rs:=eS) (.cons BF BA (.cons jh je (.nil _))) (by kernel_rfl) (fun self x=>bT self x.1 x.2.1) [] none (by kernel_rfl) iV AV) (fun x=>kZ x.1 x.2.1)
def q8:aB:=⟨[.val tI,.val (.ptr (.ptr iQ))],[.val .bool],fun x=>Ar x.1 x.2.1⟩
noncomputable def D7:Cx:=⟨tpr,[(12,iZ)],[]⟩
theorem CL:aS D7 [] none Tryz.f14 q8:=by intro x;kernel_rfl
theorem Em:av tpr 14:=an Tryz.func14 rfl (by decide)
theorem Es:aH tpr 14 q8:=aJ CL (.cons ny iV (.nil _)) aN Tryz.func14
def pS:aB:=⟨[.val tI,.val (.ptr bF),.val (.ptr .str)],[.val .bool],fun x=>td x.1 x.2.1 x.2.2.1⟩
noncomputable def CD:Cx:=⟨tpr,[],[]⟩
theorem BZ:aS CD [] none Tryz.f88 pS:=by intro x;kernel_rfl
theorem C4:av tpr 88:=an Tryz.func88 rfl (by decide)
theorem Dl:aH tpr 88 pS:=aJ BZ (.nil _) aN Tryz.func88
def yY:List (Nat×Ann):=[(2,⟨[(0,.val (.slice tI)),(1,.val (.clo 88 (.pair (.ptr bF) (.ptr .str)))),(7,.val tI),(8,.val tI)],[],[],aY _⟩),
 (200002,⟨[],[],[],fun _=>0⟩)]
def mm:aB:=⟨[.val (.slice tI),.val (.clo 88 (.pair (.ptr bF) (.ptr .str)))],[.val tI],fun x=>pN x.1 x.2.1⟩
noncomputable def AS:Cx:=⟨tpr,[(88,pS)],[]⟩
theorem zZ:aS AS yY none Tryz.f32 mm:=by intro x;kernel_rfl
theorem AY:av tpr 32:=an Tryz.func32 rfl (by decide)
theorem AZ:aH tpr 32 mm:=aJ zZ (.cons Dl C4 (.nil _)) aN Tryz.func32
def xL:List (Nat×Ann):=[(2,⟨[(0,.val (.slice tI)),(1,.val (.clo 14 (.ptr (.ptr iQ)))),(7,.val tI),(8,.val tI)],[],[],aY _⟩),
 (200002,⟨[],[],[],fun _=>0⟩)]
def kI:aB:=⟨[.val (.slice tI),.val (.clo 14 (.ptr (.ptr iQ)))],[.val tI],fun x=>ua x.1 x.2.1⟩
noncomputable def za:Cx:=⟨tpr,[(14,q8)],[]⟩
theorem yx:aS za xL none Tryz.f32 kI:=by intro x;kernel_rfl
theorem zk:av tpr 32:=an Tryz.func32 rfl (by decide)
theorem zn:aH tpr 32 kI:=aJ yx (.cons Es Em (.nil _)) aN Tryz.func32
def jH:aB:=⟨[.val (.slice tI),.val (.clo 88 (.pair (.ptr bF) (.ptr .str)))],[.val .bool],fun x=>mh x.1 x.2.1⟩
noncomputable def yq:Cx:=⟨tpr,[(32,mm)],[]⟩
theorem xP:aS yq [] none Tryz.f13 jH:=by intro x;kernel_rfl
theorem yy:av tpr 13:=an Tryz.func13 rfl (by decide)
theorem yz:aH tpr 13 jH:=aJ xP (.cons AZ AY (.nil _)) aN Tryz.func13
def iP:aB:=⟨[.val (.slice tI),.val (.clo 14 (.ptr (.ptr iQ)))],[.val .bool],fun x=>rD x.1 x.2.1⟩
noncomputable def wM:Cx:=⟨tpr,[(32,kI)],[]⟩
theorem wC:aS wM [] none Tryz.f13 iP:=by intro x;kernel_rfl
theorem wQ:av tpr 13:=an Tryz.func13 rfl (by decide)
theorem wU:aH tpr 13 iP:=aJ wC (.cons zn zk (.nil _)) aN Tryz.func13
end Go.Proofs.SeatU
end
