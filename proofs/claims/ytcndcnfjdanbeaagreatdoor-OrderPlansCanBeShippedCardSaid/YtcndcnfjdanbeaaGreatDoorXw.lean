/-
  Each function that the law reaches is as its plain model says. No condition.
-/
import Derived.Test.YtcndcnfjdanbeaaGreatDoorXv
set_option linter.all false
set_option maxRecDepth 100000
namespace Go.Proofs.SeatA
open Go.Dn Go.Md Go.Proofs
def Gm:List CK:=[.val .bool,.own 192 (.int .u32)]
def AD:List CK:=[.val .bool,.val (.slice (.int .u32))]
def RE:List CK:=[.val .bool,.val .bool,.val .bool,.val .bool,.val .bool,.val .bool]
def RF:List CK:=[.val .str,.val .str,.val .str,.val tI,.val tI,.val (.slice jA),.val (.slice aH),.mapR 10,.own 133 az,.own 177 bO,.val tI]
def RG:List CK:=[.val .str,.val .str,.val .str,.val tI,.val tI,.val (.slice jA),.val (.slice aH),.mapR 10250003,.rowR 10250004,.rowR 10250005,.val tI]
def Gn:List CK:=[.val tI,.val tI,.val tI,.val tI,.val tI,.val .str,.val tI,.val tI,.val .str,.val tI,.val tI,.val tI,.val tI]
def BM:List (Nat×Ann):=[]
noncomputable def jG:aB:=⟨[.val .str],[.val .bool],fun x=>fP x.1⟩
noncomputable def Fp:Cx:=⟨Tryz.prog,[(178,xz)],[]⟩
theorem Ln:∀ x,aT Fp BM none Tryz.f118 jG x=jG.m x:=by intro x;kernel_rfl
theorem vq:ay Tryz.prog 118:=av (fn:=Tryz.f118) (by kernel_rfl) rfl (by decide)
theorem vu:aI Tryz.prog 118 jG:=aG (X:=Fp) (.cons KI Kt (.nil _)) (by kernel_rfl) jG BM none (by kernel_rfl) (fun x y h=>(Ln x).trans h)
def Av:List (Nat×Ann):=[]
noncomputable def gd:aB:=⟨[.val tI,.val tI,.val tI],[.val .bool],fun x=>eN x.1 x.2.1 x.2.2.1⟩
noncomputable def Dp:Cx:=⟨Tryz.prog,[],[]⟩
theorem J9:∀ x,aT Dp Av none Tryz.f36 gd x=gd.m x:=by intro x;kernel_rfl
theorem mQ:ay Tryz.prog 36:=av (fn:=Tryz.f36) (by kernel_rfl) rfl (by decide)
theorem mS:aI Tryz.prog 36 gd:=aG (X:=Dp) (.nil _) (by kernel_rfl) gd Av none (by kernel_rfl) (fun x y h=>(J9 x).trans h)
def C8:List (Nat×Ann):=[]
noncomputable def jv:aB:=⟨[.val tI],[.val .bool],fun x=>ov x.1⟩
noncomputable def Gt:Cx:=⟨Tryz.prog,[(36,gd)],[]⟩
theorem M8:∀ x,aT Gt C8 none Tryz.f56 jv x=jv.m x:=by intro x;kernel_rfl
theorem sU:ay Tryz.prog 56:=av (fn:=Tryz.f56) (by kernel_rfl) rfl (by decide)
theorem s6:aI Tryz.prog 56 jv:=aG (X:=Gt) (.cons mS mQ (.nil _)) (by kernel_rfl) jv C8 none (by kernel_rfl) (fun x y h=>(M8 x).trans h)
def sE:List (Nat×Ann):=[]
noncomputable def ga:aB:=⟨[.val az],[.val tI],fun x=>gY x.1⟩
noncomputable def uK:Cx:=⟨Tryz.prog,[(36,gd)],[]⟩
theorem BC:∀ x,aT uK sE none Tryz.f136 ga x=ga.m x:=by intro x;kernel_rfl
theorem uS:ay Tryz.prog 136:=av (fn:=Tryz.f136) (by kernel_rfl) rfl (by decide)
theorem uY:aI Tryz.prog 136 ga:=aG (X:=uK) (.cons mS mQ (.nil _)) (by kernel_rfl) ga sE none (by kernel_rfl) (fun x y h=>(BC x).trans h)
def Ax:List (Nat×Ann):=[(3,⟨[(3,.val tI),(4,.val tI),(5,.val tI)],[],[],bh _⟩),
 (200003,⟨[(3,.val tI)],[],[],fun _=>0⟩)]
noncomputable def mW:aB:=⟨[.val tI],[.val tI],fun x=>yC x.1⟩
noncomputable def Dr:Cx:=⟨Tryz.prog,[],[]⟩
theorem Kb:∀ x,aT Dr Ax none Tryz.f120 mW x=mW.m x:=by intro x;kernel_rfl
theorem DG:ay Tryz.prog 120:=av (fn:=Tryz.f120) (by kernel_rfl) rfl (by decide)
theorem DO:aI Tryz.prog 120 mW:=aG (X:=Dr) (.nil _) (by kernel_rfl) mW Ax none (by kernel_rfl) (fun x y h=>(Kb x).trans h)
def zK:List (Nat×Ann):=[]
noncomputable def lS:aB:=⟨[.val az,.val tI,.val tI],[.val .bool],fun x=>pQ x.1 x.2.1 x.2.2.1⟩
noncomputable def BY:Cx:=⟨Tryz.prog,[(120,mW)],[]⟩
theorem Jh:∀ x,aT BY zK none Tryz.f179 lS x=lS.m x:=by intro x;kernel_rfl
theorem Ca:ay Tryz.prog 179:=av (fn:=Tryz.f179) (by kernel_rfl) rfl (by decide)
theorem Cf:aI Tryz.prog 179 lS:=aG (X:=BY) (.cons DO DG (.nil _)) (by kernel_rfl) lS zK none (by kernel_rfl) (fun x y h=>(Jh x).trans h)
def sF:List (Nat×Ann):=[]
noncomputable def eP:aB:=⟨[.val az,.val .bool],[.val tI],fun x=>ia x.1 x.2.1⟩
noncomputable def uL:Cx:=⟨Tryz.prog,[(136,ga),(179,lS)],[]⟩
theorem BD:∀ x,aT uL sF none Tryz.f119 eP x=eP.m x:=by intro x;kernel_rfl
theorem oK:ay Tryz.prog 119:=av (fn:=Tryz.f119) (by kernel_rfl) rfl (by decide)
theorem oM:aI Tryz.prog 119 eP:=aG (X:=uL) (.cons uY uS (.cons Cf Ca (.nil _))) (by kernel_rfl) eP sF none (by kernel_rfl) (fun x y h=>(BD x).trans h)
def we:List (Nat×Ann):=[]
noncomputable def ij:aB:=⟨[.val az],[.val tI],fun x=>ng x.1⟩
noncomputable def xL:Cx:=⟨Tryz.prog,[(136,ga),(179,lS)],[]⟩
theorem Ej:∀ x,aT xL we none Tryz.f199 ij x=ij.m x:=by intro x;kernel_rfl
theorem xP:ay Tryz.prog 199:=av (fn:=Tryz.f199) (by kernel_rfl) rfl (by decide)
theorem xQ:aI Tryz.prog 199 ij:=aG (X:=xL) (.cons uY uS (.cons Cf Ca (.nil _))) (by kernel_rfl) ij we none (by kernel_rfl) (fun x y h=>(Ej x).trans h)
def wP:List (Nat×Ann):=[(300004,⟨[(17,.val .bool)],[],[],fun _=>0⟩)]
noncomputable def kY:aB:=⟨[.val bE,.val tI],[.val tI],fun x=>se x.1 x.2.1⟩
noncomputable def yR:Cx:=⟨Tryz.prog,[(36,gd),(118,jG),(119,eP),(199,ij)],[]⟩
theorem FT:∀ x,aT yR wP none Tryz.f171 kY x=kY.m x:=by intro x;kernel_rfl
theorem GO:ay Tryz.prog 171:=av (fn:=Tryz.f171) (by kernel_rfl) rfl (by decide)
theorem Hl:aI Tryz.prog 171 kY:=aG (X:=yR) (.cons mS mQ (.cons vu vq (.cons oM oK (.cons xQ xP (.nil _))))) (by kernel_rfl) kY wP none (by kernel_rfl) (fun x y h=>(FT x).trans h)
def vZ:List (Nat×Ann):=[(12,⟨[(1,.ref 1 0),(50,.val tI),(51,.val tI)],[(1,[.val .str,.val .str,.val .str,.val tI,.val tI,.val (.slice jA)])],[],bh _⟩),
 (200012,⟨[],[],[],fun _=>0⟩)]
noncomputable def jT:aB:=⟨[.val bE],[.val tI],fun x=>qC x.1⟩
noncomputable def xK:Cx:=⟨Tryz.prog,[(36,gd),(56,jv),(118,jG),(171,kY)],[]⟩
theorem Ei:∀ x,aT xK vZ none Tryz.f112 jT x=jT.m x:=by intro x;kernel_rfl
theorem FY:ay Tryz.prog 112:=av (fn:=Tryz.f112) (by kernel_rfl) rfl (by decide)
theorem F7:aI Tryz.prog 112 jT:=aG (X:=xK) (.cons mS mQ (.cons s6 sU (.cons vu vq (.cons Hl GO (.nil _))))) (by kernel_rfl) jT vZ none (by kernel_rfl) (fun x y h=>(Ei x).trans h)
def wN:List (Nat×Ann):=[]
noncomputable def jb:aB:=⟨[.val tI],[.val .bool],fun x=>oy x.1⟩
noncomputable def yP:Cx:=⟨Tryz.prog,[],[]⟩
theorem FQ:∀ x,aT yP wN none Tryz.f177 jb x=jb.m x:=by intro x;kernel_rfl
theorem yX:ay Tryz.prog 177:=av (fn:=Tryz.f177) (by kernel_rfl) rfl (by decide)
theorem zh:aI Tryz.prog 177 jb:=aG (X:=yP) (.nil _) (by kernel_rfl) jb wN none (by kernel_rfl) (fun x y h=>(FQ x).trans h)
def zJ:List (Nat×Ann):=[]
noncomputable def lR:aB:=⟨[.val tI],[.val O8],fun x=>tc x.1⟩
noncomputable def BX:Cx:=⟨Tryz.prog,[],[]⟩
theorem Jg:∀ x,aT BX zJ none Tryz.f62 lR x=lR.m x:=by intro x;kernel_rfl
theorem B9:ay Tryz.prog 62:=av (fn:=Tryz.f62) (by kernel_rfl) rfl (by decide)
theorem Ce:aI Tryz.prog 62 lR:=aG (X:=BX) (.nil _) (by kernel_rfl) lR zJ none (by kernel_rfl) (fun x y h=>(Jg x).trans h)
def wR:List (Nat×Ann):=[(100003,⟨[(1,.ref 1 0),(3,.ref 3 0)],[(1,Gn),(3,RE)],[],fun _=>0⟩),
 (100007,⟨[(1,.ref 1 0),(3,.ref 3 0)],[(1,Gn),(3,RE)],[],fun _=>0⟩),
 (300011,⟨[(30,.val .bool)],[],[],fun _=>0⟩),
 (300013,⟨[(39,.val .bool)],[],[],fun _=>0⟩),
 (300015,⟨[(58,.val .bool)],[],[],fun _=>0⟩),
 (300017,⟨[(66,.val .bool)],[],[],fun _=>0⟩)]
noncomputable def kZ:aB:=⟨[.val aH],[.val tI],fun x=>sj x.1⟩
noncomputable def yT:Cx:=⟨Tryz.prog,[(36,gd),(56,jv),(62,lR),(118,jG),(119,eP),(199,ij)],[]⟩
theorem FV:∀ x,aT yT wR none Tryz.f180 kZ x=kZ.m x:=by intro x;kernel_rfl
theorem GP:ay Tryz.prog 180:=av (fn:=Tryz.f180) (by kernel_rfl) rfl (by decide)
theorem Ho:aI Tryz.prog 180 kZ:=aG (X:=yT) (.cons mS mQ (.cons s6 sU (.cons Ce B9 (.cons vu vq (.cons oM oK (.cons xQ xP (.nil _))))))) (by kernel_rfl) kZ wR none (by kernel_rfl) (fun x y h=>(FV x).trans h)
def wM:List (Nat×Ann):=[]
noncomputable def kW:aB:=⟨[.val aH],[.val tI],fun x=>sd x.1⟩
noncomputable def yO:Cx:=⟨Tryz.prog,[(36,gd),(56,jv),(177,jb),(180,kZ)],[]⟩
theorem FP:∀ x,aT yO wM none Tryz.f124 kW x=kW.m x:=by intro x;kernel_rfl
theorem GM:ay Tryz.prog 124:=av (fn:=Tryz.f124) (by kernel_rfl) rfl (by decide)
theorem Hi:aI Tryz.prog 124 kW:=aG (X:=yO) (.cons mS mQ (.cons s6 sU (.cons zh yX (.cons Ho GP (.nil _))))) (by kernel_rfl) kW wM none (by kernel_rfl) (fun x y h=>(FP x).trans h)
def uv:List (Nat×Ann):=[(2,⟨[(22,.rowR 22),(23,.val tI),(24,.val tI)],[],[.rowC 22 3 tI],bh _⟩),
 (200002,⟨[],[],[],fun _=>0⟩)]
noncomputable def iZ:aB:=⟨[.val aH,.val aH],[.val tI],fun x=>kR x.1 x.2.1⟩
noncomputable def wo:Cx:=⟨Tryz.prog,[],[]⟩
theorem Cs:∀ x,aT wo uv none Tryz.f125 iZ x=iZ.m x:=by intro x;kernel_rfl
theorem DE:ay Tryz.prog 125:=av (fn:=Tryz.f125) (by kernel_rfl) rfl (by decide)
theorem DM:aI Tryz.prog 125 iZ:=aG (X:=wo) (.nil _) (by kernel_rfl) iZ uv none (by kernel_rfl) (fun x y h=>(Cs x).trans h)
def vY:List (Nat×Ann):=[(5,⟨[(0,.val (.slice aH)),(3,.ref 3 0),(11,.val (.slice aH)),(12,.val tI),(13,.val tI)],[(3,[.val tI,.val tI,.val tI])],[],bh _⟩),
 (200005,⟨[],[],[],fun _=>0⟩),
 (300010,⟨[(34,.val .bool)],[],[],fun _=>0⟩)]
noncomputable def gm:aB:=⟨[.val (.slice aH)],[.val tI],fun x=>jY x.1⟩
noncomputable def xJ:Cx:=⟨Tryz.prog,[(124,kW),(125,iZ)],[]⟩
theorem Eh:∀ x,aT xJ vY none Tryz.f75 gm x=gm.m x:=by intro x;kernel_rfl
theorem rJ:ay Tryz.prog 75:=av (fn:=Tryz.f75) (by kernel_rfl) rfl (by decide)
theorem rL:aI Tryz.prog 75 gm:=aG (X:=xJ) (.cons Hi GM (.cons DM DE (.nil _))) (by kernel_rfl) gm vY none (by kernel_rfl) (fun x y h=>(Eh x).trans h)
def yI:List (Nat×Ann):=[]
noncomputable def iQ:aB:=⟨[.val bE,.val (.slice aH)],[.val tI],fun x=>nS x.1 x.2.1⟩
noncomputable def AG:Cx:=⟨Tryz.prog,[(75,gm),(112,jT)],[]⟩
theorem Io:∀ x,aT AG yI none Tryz.f55 iQ x=iQ.m x:=by intro x;kernel_rfl
theorem vI:ay Tryz.prog 55:=av (fn:=Tryz.f55) (by kernel_rfl) rfl (by decide)
theorem vL:aI Tryz.prog 55 iQ:=aG (X:=AG) (.cons rL rJ (.cons F7 FY (.nil _))) (by kernel_rfl) iQ yI none (by kernel_rfl) (fun x y h=>(Io x).trans h)
def Ay:List (Nat×Ann):=[]
noncomputable def gf:aB:=⟨[.val az],[.val tI],fun x=>gM x.1⟩
noncomputable def Ds:Cx:=⟨Tryz.prog,[(120,mW)],[]⟩
theorem Kc:∀ x,aT Ds Ay none Tryz.f69 gf x=gf.m x:=by intro x;kernel_rfl
theorem mR:ay Tryz.prog 69:=av (fn:=Tryz.f69) (by kernel_rfl) rfl (by decide)
theorem mT:aI Tryz.prog 69 gf:=aG (X:=Ds) (.cons DO DG (.nil _)) (by kernel_rfl) gf Ay none (by kernel_rfl) (fun x y h=>(Kc x).trans h)
def uG:List (Nat×Ann):=[(3,⟨[(5,.ref 12 0),(14,.val (.slice jA)),(15,.val tI),(16,.val tI)],[(12,RF)],[.mapC 10 tI .hnd,.ar an],bh _⟩),
 (200003,⟨[(5,.ref 12 0)],[(12,RF)],[.mapC 10 tI .hnd,.ar an],fun _=>0⟩)]
noncomputable def fS:aB:=⟨[.val bE,.val (.slice aH),.ar an],[.box [.val bE,.val (.slice aH),.map tI .hnd,.row 133 az,.row 177 bO,.val tI]],fun x=>gW x.1 x.2.1 x.2.2.1⟩
noncomputable def wV:Cx:=⟨Tryz.prog,[(69,gf)],[]⟩
theorem Dv:∀ x,aT wV uG none Tryz.f57 fS x=fS.m x:=by intro x;kernel_rfl
theorem qx:ay Tryz.prog 57:=av (fn:=Tryz.f57) (by kernel_rfl) rfl (by decide)
theorem qB:aI Tryz.prog 57 fS:=aG (X:=wV) (.cons mT mR (.nil _)) (by kernel_rfl) fS uG none (by kernel_rfl) (fun x y h=>(Dv x).trans h)
def uw:List (Nat×Ann):=[]
noncomputable def ja:aB:=⟨[.box [.val bE,.val (.slice aH),.map tI .hnd,.row 133 az,.row 177 bO,.val tI],.val tI,.ar an],[.val tI],fun x=>ox x.1 x.2.1 x.2.2.1⟩
noncomputable def wq:Cx:=⟨Tryz.prog,[],[]⟩
theorem Ct:∀ x,aT wq uw none Tryz.f172 ja x=ja.m x:=by intro x;kernel_rfl
theorem DF:ay Tryz.prog 172:=av (fn:=Tryz.f172) (by kernel_rfl) rfl (by decide)
theorem DN:aI Tryz.prog 172 ja:=aG (X:=wq) (.nil _) (by kernel_rfl) ja uw none (by kernel_rfl) (fun x y h=>(Ct x).trans h)
def sJ:List (Nat×Ann):=[(300002,⟨[(27,.val .bool)],[],[],fun _=>0⟩)]
noncomputable def iF:aB:=⟨[.box [.val bE,.val (.slice aH),.map tI .hnd,.row 133 az,.row 177 bO,.val tI],.val .hnd,.val tI,.ar an],[.val tI],fun x=>nH x.1 x.2.1 x.2.2.1 x.2.2.2.1⟩
noncomputable def uP:Cx:=⟨Tryz.prog,[],[]⟩
theorem BH:∀ x,aT uP sJ none Tryz.f173 iF x=iF.m x:=by intro x;kernel_rfl
theorem CC:ay Tryz.prog 173:=av (fn:=Tryz.f173) (by kernel_rfl) rfl (by decide)
theorem CO:aI Tryz.prog 173 iF:=aG (X:=uP) (.nil _) (by kernel_rfl) iF sJ none (by kernel_rfl) (fun x y h=>(BH x).trans h)
def qO:List (Nat×Ann):=[]
noncomputable def gG:aB:=⟨[.box [.val bE,.val (.slice aH),.map tI .hnd,.row 133 az,.row 177 bO,.val tI],.val .hnd,.val aH,.ar an],[.val tI],fun x=>lJ x.1 x.2.1 x.2.2.1 x.2.2.2.1⟩
noncomputable def sN:Cx:=⟨Tryz.prog,[(69,gf)],[]⟩
theorem zW:∀ x,aT sN qO none Tryz.f63 gG x=gG.m x:=by intro x;kernel_rfl
theorem AS:ay Tryz.prog 63:=av (fn:=Tryz.f63) (by kernel_rfl) rfl (by decide)
theorem Bb:aI Tryz.prog 63 gG:=aG (X:=sN) (.cons mT mR (.nil _)) (by kernel_rfl) gG qO none (by kernel_rfl) (fun x y h=>(zW x).trans h)
def wQ:List (Nat×Ann):=[]
noncomputable def eL:aB:=⟨[.val .hnd,.arR an],[.val tI],fun x=>gw x.1 x.2.1⟩
noncomputable def yS:Cx:=⟨Tryz.prog,[],[]⟩
theorem FU:∀ x,aT yS wQ none Tryz.f43 eL x=eL.m x:=by intro x;kernel_rfl
theorem kN:ay Tryz.prog 43:=av (fn:=Tryz.f43) (by kernel_rfl) rfl (by decide)
theorem kQ:aI Tryz.prog 43 eL:=aG (X:=yS) (.nil _) (by kernel_rfl) eL wQ none (by kernel_rfl) (fun x y h=>(FU x).trans h)
def qc:List (Nat×Ann):=[]
noncomputable def gx:aB:=⟨[.box [.val bE,.val (.slice aH),.map tI .hnd,.row 133 az,.row 177 bO,.val tI],.val .hnd,.val aH,.ar an],[.val tI],fun x=>kI x.1 x.2.1 x.2.2.1 x.2.2.2.1⟩
noncomputable def rV:Cx:=⟨Tryz.prog,[(43,eL),(69,gf)],[]⟩
theorem zz:∀ x,aT rV qc none Tryz.f174 gx x=gx.m x:=by intro x;kernel_rfl
theorem z6:ay Tryz.prog 174:=av (fn:=Tryz.f174) (by kernel_rfl) rfl (by decide)
theorem Aa:aI Tryz.prog 174 gx:=aG (X:=rV) (.cons kQ kN (.cons mT mR (.nil _))) (by kernel_rfl) gx qc none (by kernel_rfl) (fun x y h=>(zz x).trans h)
def sI:List (Nat×Ann):=[]
noncomputable def iE:aB:=⟨[.box [.val bE,.val (.slice aH),.map tI .hnd,.row 133 az,.row 177 bO,.val tI],.val .hnd,.val aH,.ar an],[.val tI],fun x=>nG x.1 x.2.1 x.2.2.1 x.2.2.2.1⟩
noncomputable def uO:Cx:=⟨Tryz.prog,[],[]⟩
theorem BG:∀ x,aT uO sI none Tryz.f175 iE x=iE.m x:=by intro x;kernel_rfl
theorem CB:ay Tryz.prog 175:=av (fn:=Tryz.f175) (by kernel_rfl) rfl (by decide)
theorem CN:aI Tryz.prog 175 iE:=aG (X:=uO) (.nil _) (by kernel_rfl) iE sI none (by kernel_rfl) (fun x y h=>(BG x).trans h)
def sH:List (Nat×Ann):=[]
noncomputable def iD:aB:=⟨[.box [.val bE,.val (.slice aH),.map tI .hnd,.row 133 az,.row 177 bO,.val tI],.val .hnd,.val aH,.ar an],[.val tI],fun x=>nF x.1 x.2.1 x.2.2.1 x.2.2.2.1⟩
noncomputable def uN:Cx:=⟨Tryz.prog,[(69,gf)],[]⟩
theorem BF:∀ x,aT uN sH none Tryz.f176 iD x=iD.m x:=by intro x;kernel_rfl
theorem CA:ay Tryz.prog 176:=av (fn:=Tryz.f176) (by kernel_rfl) rfl (by decide)
theorem CM:aI Tryz.prog 176 iD:=aG (X:=uN) (.cons mT mR (.nil _)) (by kernel_rfl) iD sH none (by kernel_rfl) (fun x y h=>(BF x).trans h)
def sG:List (Nat×Ann):=[(100011,⟨[(0,.ref 2000 0),(1,.val tI),(5,.ref 5 0),(6,.val .hnd),(31,.val tI),(36,.val .bool)],[(5,Gn),(2000,RG)],[.rowC 10250004 133 az,.rowC 10250005 177 bO,.mapC 10250003 tI .hnd,.ar an],fun _=>0⟩),
 (100015,⟨[(0,.ref 2000 0),(5,.ref 5 0),(6,.val .hnd),(31,.val tI),(44,.val .bool)],[(5,Gn),(2000,RG)],[.rowC 10250004 133 az,.rowC 10250005 177 bO,.mapC 10250003 tI .hnd,.ar an],fun _=>0⟩),
 (100017,⟨[(5,.ref 5 0),(6,.val .hnd),(7,.val tI)],[(5,Gn),(2000,[.val .str,.val .str,.val .str,.val tI,.val tI,.val (.slice jA),.val (.slice aH),.map tI .hnd,.own 133 az,.own 177 bO,.val tI])],[.ar an],fun _=>0⟩),
 (300021,⟨[(69,.val .bool)],[],[],fun _=>0⟩)]
noncomputable def iC:aB:=⟨[.box [.val bE,.val (.slice aH),.map tI .hnd,.row 133 az,.row 177 bO,.val tI],.val tI,.ar an],[.val tI],fun x=>aK x.1 x.2.1 x.2.2.1⟩
noncomputable def uM:Cx:=⟨Tryz.prog,[(63,gG),(69,gf),(172,ja),(173,iF),(174,gx),(175,iE),(176,iD),(177,jb)],[]⟩
theorem BE:∀ x,aT uM sG none Tryz.f113 iC x=iC.m x:=by intro x;kernel_rfl
theorem Cz:ay Tryz.prog 113:=av (fn:=Tryz.f113) (by kernel_rfl) rfl (by decide)
theorem CL:aI Tryz.prog 113 iC:=aG (X:=uM) (.cons Bb AS (.cons mT mR (.cons DN DF (.cons CO CC (.cons Aa z6 (.cons CN CB (.cons CM CA (.cons zh yX (.nil _))))))))) (by kernel_rfl) iC sG none (by kernel_rfl) (fun x y h=>(BE x).trans h)
def yL:List (Nat×Ann):=[(1,⟨[(0,.val (.slice (.int .u32)))],[],[],bh _⟩),
 (200001,⟨[(0,.val (.slice (.int .u32)))],[],[],fun _=>0⟩)]
noncomputable def iR:aB:=⟨[.val (.slice (.int .u32))],[.val (.slice (.int .u32))],fun x=>nX x.1⟩
noncomputable def AJ:Cx:=⟨Tryz.prog,[],[]⟩
theorem Ir:∀ x,aT AJ yL none Tryz.f139 iR x=iR.m x:=by intro x;kernel_rfl
theorem vJ:ay Tryz.prog 139:=av (fn:=Tryz.f139) (by kernel_rfl) rfl (by decide)
theorem vM:aI Tryz.prog 139 iR:=aG (X:=AJ) (.nil _) (by kernel_rfl) iR yL none (by kernel_rfl) (fun x y h=>(Ir x).trans h)
def BS:List (Nat×Ann):=[]
noncomputable def iJ:aB:=⟨[.val .bool,.val (.slice (.int .u32))],[.val cZ],fun x=>iK x.1 x.2.1⟩
noncomputable def Fw:Cx:=⟨Tryz.prog,[(139,iR)],[]⟩
theorem Lu:∀ x,aT Fw BS none Tryz.f137 iJ x=iJ.m x:=by intro x;kernel_rfl
theorem qU:ay Tryz.prog 137:=av (fn:=Tryz.f137) (by kernel_rfl) rfl (by decide)
theorem qZ:aI Tryz.prog 137 iJ:=aG (X:=Fw) (.cons vM vJ (.nil _)) (by kernel_rfl) iJ BS none (by kernel_rfl) (fun x y h=>(Lu x).trans h)
def Fo:List (Nat×Ann):=[(100003,⟨[(0,.val tI),(2,.ref 2 0),(3,.val (.int .u64))],[(2,Gm)],[],fun _=>0⟩)]
noncomputable def oV:aB:=⟨[.val tI],[.val cZ],fun x=>tN x.1⟩
noncomputable def ID:Cx:=⟨Tryz.prog,[(137,iJ)],[]⟩
theorem N7:∀ x,aT ID Fo none Tryz.f85 oV x=oV.m x:=by intro x;kernel_rfl
theorem CF:ay Tryz.prog 85:=av (fn:=Tryz.f85) (by kernel_rfl) rfl (by decide)
theorem CR:aI Tryz.prog 85 oV:=aG (X:=ID) (.cons qZ qU (.nil _)) (by kernel_rfl) oV Fo none (by kernel_rfl) (fun x y h=>(N7 x).trans h)
def Dc:List (Nat×Ann):=[(6,⟨[(1,.val (.slice (.int .u32))),(5,.own 192 (.int .u32)),(6,.val (.int .u64)),(20,.val (.slice (.int .u32))),(21,.val tI),(22,.val tI)],[],[],bh _⟩),
 (100002,⟨[(0,.val (.slice (.int .u32))),(1,.val (.slice (.int .u32)))],[],[],fun _=>0⟩),
 (100010,⟨[(1,.val (.slice (.int .u32))),(5,.own 192 (.int .u32)),(6,.val (.int .u64)),(20,.val (.slice (.int .u32))),(21,.val tI),(22,.val tI)],[],[],fun _=>0⟩),
 (200006,⟨[(5,.own 192 (.int .u32)),(6,.val (.int .u64))],[],[],fun _=>0⟩)]
noncomputable def tC:aB:=⟨[.val (.slice (.int .u32)),.val (.slice (.int .u32))],[.row 192 (.int .u32)],fun x=>Co x.1 x.2.1⟩
noncomputable def Gy:Cx:=⟨Tryz.prog,[],[]⟩
theorem Nc:∀ x,aT Gy Dc none Tryz.f138 tC x=tC.m x:=by intro x;kernel_rfl
theorem Oj:ay Tryz.prog 138:=av (fn:=Tryz.f138) (by kernel_rfl) rfl (by decide)
theorem OJ:aI Tryz.prog 138 tC:=aG (X:=Gy) (.nil _) (by kernel_rfl) tC Dc none (by kernel_rfl) (fun x y h=>(Nc x).trans h)
def AA:List (Nat×Ann):=[(6,⟨[(1,.val (.slice (.int .u32))),(5,.own 192 (.int .u32)),(6,.val (.int .u64)),(20,.val (.slice (.int .u32))),(21,.val tI),(22,.val tI)],[],[],bh _⟩),
 (100002,⟨[(0,.val (.slice (.int .u32))),(1,.val (.slice (.int .u32)))],[],[],fun _=>0⟩),
 (100010,⟨[(1,.val (.slice (.int .u32))),(5,.own 192 (.int .u32)),(6,.val (.int .u64)),(20,.val (.slice (.int .u32))),(21,.val tI),(22,.val tI)],[],[],fun _=>0⟩),
 (200006,⟨[(5,.own 192 (.int .u32)),(6,.val (.int .u64))],[],[],fun _=>0⟩)]
noncomputable def p8:aB:=⟨[.val (.slice (.int .u32)),.val (.slice (.int .u32))],[.val (.slice (.int .u32))],fun x=>I8 x.1 x.2.1⟩
noncomputable def Du:Cx:=⟨Tryz.prog,[],[]⟩
theorem Kf:∀ x,aT Du AA none Tryz.f138 p8 x=p8.m x:=by intro x;kernel_rfl
theorem LF:ay Tryz.prog 138:=av (fn:=Tryz.f138) (by kernel_rfl) rfl (by decide)
theorem LU:aI Tryz.prog 138 p8:=aG (X:=Du) (.nil _) (by kernel_rfl) p8 AA none (by kernel_rfl) (fun x y h=>(Kf x).trans h)
def yK:List (Nat×Ann):=[(4,⟨[(0,.val (.slice (.int .u32))),(1,.val (.slice (.int .u32))),(5,.val tI)],[],[],bh _⟩),
 (200004,⟨[],[],[],fun _=>0⟩)]
noncomputable def ko:aB:=⟨[.val (.slice (.int .u32)),.val (.slice (.int .u32))],[.val tI],fun x=>ru x.1 x.2.1⟩
noncomputable def AI:Cx:=⟨Tryz.prog,[],[]⟩
theorem Iq:∀ x,aT AI yK none Tryz.f140 ko x=ko.m x:=by intro x;kernel_rfl
theorem AW:ay Tryz.prog 140:=av (fn:=Tryz.f140) (by kernel_rfl) rfl (by decide)
theorem Bg:aI Tryz.prog 140 ko:=aG (X:=AI) (.nil _) (by kernel_rfl) ko yK none (by kernel_rfl) (fun x y h=>(Iq x).trans h)
def BR:List (Nat×Ann):=[(4,⟨[(1,.val (.slice (.int .u32))),(5,.own 192 (.int .u32)),(6,.val (.int .u64)),(13,.val (.slice (.int .u32))),(14,.val tI),(15,.val tI)],[],[],bh _⟩),
 (100008,⟨[(1,.val (.slice (.int .u32))),(5,.own 192 (.int .u32)),(9,.val (.int .u64)),(13,.val (.slice (.int .u32))),(14,.val tI),(15,.val tI)],[],[],fun _=>0⟩),
 (200004,⟨[(5,.own 192 (.int .u32))],[],[],fun _=>0⟩)]
noncomputable def nV:aB:=⟨[.val (.slice (.int .u32)),.val (.slice (.int .u32))],[.val (.slice (.int .u32))],fun x=>uo x.1 x.2.1⟩
noncomputable def Fv:Cx:=⟨Tryz.prog,[(139,iR)],[]⟩
theorem Lt:∀ x,aT Fv BR none Tryz.f141 nV x=nV.m x:=by intro x;kernel_rfl
theorem FE:ay Tryz.prog 141:=av (fn:=Tryz.f141) (by kernel_rfl) rfl (by decide)
theorem FG:aI Tryz.prog 141 nV:=aG (X:=Fv) (.cons vM vJ (.nil _)) (by kernel_rfl) nV BR none (by kernel_rfl) (fun x y h=>(Lt x).trans h)
def zL:List (Nat×Ann):=[(4,⟨[(2,.ref 2 0),(3,.ref 3 0),(4,.ref 4 0),(5,.ref 5 0),(6,.rowR 12),(7,.val (.slice (.int .u32))),(8,.val tI)],[(2,AD),(3,AD),(4,Gm),(5,Gm)],[.rowC 12 192 (.int .u32)],bh _⟩),
 (200004,⟨[(4,.ref 4 0),(5,.ref 5 0),(6,.rowR 12),(7,.val (.slice (.int .u32)))],[(4,Gm),(5,Gm)],[.rowC 12 192 (.int .u32)],fun _=>0⟩)]
noncomputable def oE:aB:=⟨[.val cZ,.val cZ],[.val cZ,.val cZ],fun x=>tH x.1 x.2.1⟩
noncomputable def BZ:Cx:=⟨Tryz.prog,[(137,iJ),(138,tC),(139,iR),(140,ko),(141,nV)],[]⟩
theorem Ji:∀ x,aT BZ zL none Tryz.f87 oE x=oE.m x:=by intro x;kernel_rfl
theorem Ku:ay Tryz.prog 87:=av (fn:=Tryz.f87) (by kernel_rfl) rfl (by decide)
theorem KJ:aI Tryz.prog 87 oE:=aG (X:=BZ) (.cons qZ qU (.cons OJ Oj (.cons vM vJ (.cons Bg AW (.cons FG FE (.nil _)))))) (by kernel_rfl) oE zL none (by kernel_rfl) (fun x y h=>(Ji x).trans h)
def xI:List (Nat×Ann):=[]
noncomputable def jC:aB:=⟨[.val cZ],[.val tI],fun x=>kr x.1⟩
noncomputable def zP:Cx:=⟨Tryz.prog,[],[]⟩
theorem GD:∀ x,aT zP xI none Tryz.f89 jC x=jC.m x:=by intro x;kernel_rfl
theorem zQ:ay Tryz.prog 89:=av (fn:=Tryz.f89) (by kernel_rfl) rfl (by decide)
theorem zR:aI Tryz.prog 89 jC:=aG (X:=zP) (.nil _) (by kernel_rfl) jC xI none (by kernel_rfl) (fun x y h=>(GD x).trans h)
def wS:List (Nat×Ann):=[]
noncomputable def jd:aB:=⟨[.val cZ],[.val cZ],fun x=>oG x.1⟩
noncomputable def yU:Cx:=⟨Tryz.prog,[(137,iJ)],[]⟩
theorem FW:∀ x,aT yU wS none Tryz.f90 jd x=jd.m x:=by intro x;kernel_rfl
theorem yY:ay Tryz.prog 90:=av (fn:=Tryz.f90) (by kernel_rfl) rfl (by decide)
theorem zi:aI Tryz.prog 90 jd:=aG (X:=yU) (.cons qZ qU (.nil _)) (by kernel_rfl) jd wS none (by kernel_rfl) (fun x y h=>(FW x).trans h)
def yJ:List (Nat×Ann):=[(5,⟨[(1,.val tI),(2,.ref 2 0),(6,.val (.int .u64)),(14,.val (.slice (.int .u32))),(15,.val tI),(16,.val tI)],[(2,AD)],[],bh _⟩),
 (200005,⟨[(1,.val tI),(2,.ref 2 0),(6,.val (.int .u64))],[(2,AD)],[],fun _=>0⟩)]
noncomputable def nv:aB:=⟨[.val cZ,.val tI],[.val tI,.val .bool],fun x=>vC x.1 x.2.1⟩
noncomputable def AH:Cx:=⟨Tryz.prog,[],[]⟩
theorem Ip:∀ x,aT AH yJ none Tryz.f142 nv x=nv.m x:=by intro x;kernel_rfl
theorem Jp:ay Tryz.prog 142:=av (fn:=Tryz.f142) (by kernel_rfl) rfl (by decide)
theorem Jy:aI Tryz.prog 142 nv:=aG (X:=AH) (.nil _) (by kernel_rfl) nv yJ none (by kernel_rfl) (fun x y h=>(Ip x).trans h)
def Ar:List (Nat×Ann):=[]
noncomputable def mV:aB:=⟨[.val cZ,.val tI],[.val az,.val tI],fun x=>oI x.1 x.2.1⟩
noncomputable def Dk:Cx:=⟨Tryz.prog,[(142,nv)],[]⟩
theorem J6:∀ x,aT Dk Ar none Tryz.f91 mV x=mV.m x:=by intro x;kernel_rfl
theorem DD:ay Tryz.prog 91:=av (fn:=Tryz.f91) (by kernel_rfl) rfl (by decide)
theorem DL:aI Tryz.prog 91 mV:=aG (X:=Dk) (.cons Jy Jp (.nil _)) (by kernel_rfl) mV Ar none (by kernel_rfl) (fun x y h=>(J6 x).trans h)
def yG:List (Nat×Ann):=[(2,⟨[(1,.val tI),(2,.ref 2 0),(4,.ref 4 0),(6,.ref 6 0)],[(2,AD),(4,[.val tI,.val tI]),(6,AD)],[],bh _⟩),
 (200002,⟨[(1,.val tI),(2,.ref 2 0),(4,.ref 4 0)],[(2,AD),(4,[.val tI,.val tI])],[],fun _=>0⟩)]
noncomputable def nt:aB:=⟨[.val cZ,.val tI],[.val az,.val tI],fun x=>vl x.1 x.2.1⟩
noncomputable def AE:Cx:=⟨Tryz.prog,[(85,oV),(87,oE),(89,jC),(90,jd),(91,mV)],[]⟩
theorem Il:∀ x,aT AE yG none Tryz.f108 nt x=nt.m x:=by intro x;kernel_rfl
theorem Jn:ay Tryz.prog 108:=av (fn:=Tryz.f108) (by kernel_rfl) rfl (by decide)
theorem Jw:aI Tryz.prog 108 nt:=aG (X:=AE) (.cons CR CF (.cons KJ Ku (.cons zR zQ (.cons zi yY (.cons DL DD (.nil _)))))) (by kernel_rfl) nt yG none (by kernel_rfl) (fun x y h=>(Il x).trans h)
end Go.Proofs.SeatA
