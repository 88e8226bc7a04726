/-
  Each function that the law reaches is as its plain model says, second part. No condition.
-/
import Derived.Test.YtcndcnfjdanbeaaGreatDoorXw
set_option linter.all false
set_option maxRecDepth 100000
namespace Go.Proofs.SeatA
open Go.Dn Go.Md Go.Proofs
def RZ:List CK:=[.val .bool,.own 192 (.int .u32)]
def gj:List CK:=[.val .bool,.own 3 tI]
def Jg:List CK:=[.val .bool,.rowR 24]
def CT:List CK:=[.val .bool,.val (.slice (.int .u32))]
def nY:List CK:=[.val .bool,.val (.slice tI)]
def abY:List CK:=[.val .str,.val .str,.val .str,.val tI,.val tI,.val (.slice fo),.val (.slice aF),.map tI .hnd,.own 133 ax,.own 177 bR,.val tI]
def abZ:List CK:=[.val .str,.val .str,.val .str,.val tI,.val tI,.val (.slice fo),.val (.slice aF),.mapR 10250003,.rowR 10250004,.rowR 10250005,.val tI]
def R6:List CK:=[.val .str,.val .str,.val .str,.val tI,.val tI,.val (.slice fo),.val (.slice aF),.own 84 aX,.own 133 ax]
def ab0:List CK:=[.val .str,.val .str,.val .str,.val tI,.val tI,.val (.slice fo),.val (.slice aF),.rowR 10250003,.rowR 10250004]
def Xa:List CK:=[.val .str,.val .str,.val .str,.val tI,.val tI,.val (.slice fo),.val (.slice aF),.rowR 4000,.rowR 10250004]
def ZH:List CK:=[.val tI,.val .str,.val .str,.val tI,.val tI,.val tI,.val tI,.val tI,.val tI,.val tI,.val tI,.val tI,.val tI,.val tI,.val tI,.val tI,.val tI,.val tI,.val (.slice bR)]
def ZI:List CK:=[.val tI,.val .str,.val .str,.val tI,.val tI,.val tI,.val tI,.val tI,.val tI,.val tI,.val tI,.val tI,.val tI,.val tI,.val tI,.val tI]
def BH:List CK:=[.val tI,.val tI,.val tI,.val tI,.val tI,.val .str,.val tI,.val tI,.val .str,.val tI,.val tI,.val tI,.val tI]
def zE:List CK:=[.val tI,.val tI]
def G8:List (Nat×Ann):=[]
noncomputable def pH:az:=⟨[.val tI],[.val ax],fun x=>nH x.1⟩
noncomputable def LV:Cx:=⟨Tryz.prog,[(85,qK),(108,oD)],[]⟩
theorem T6:∀ x,aQ LV G8 none Tryz.f52 pH x=pH.m x:=by intro x;kernel_rfl
theorem Mb:au Tryz.prog 52:=aq (fn:=Tryz.f52) (by kernel_rfl) rfl (by decide)
theorem Mg:aE Tryz.prog 52 pH:=aB (X:=LV) (.cons IC Io (.cons Rm Rc (.nil _))) (by kernel_rfl) pH G8 none (by kernel_rfl) (fun x y h=>(T6 x).trans h)
def DZ:List (Nat×Ann):=[(1,⟨[(1,.ref 1 0),(2,.ref 2 0)],[(1,zE),(2,zE)],[],aV _⟩),
 (200001,⟨[(1,.ref 1 0),(2,.ref 2 0)],[(1,zE),(2,zE)],[],fun _=>0⟩),
 (300001,⟨[(11,.val .bool)],[],[],fun _=>0⟩)]
noncomputable def qj:az:=⟨[.val ax],[.val ax],fun x=>zW x.1⟩
noncomputable def Hi:Cx:=⟨Tryz.prog,[],[]⟩
theorem QO:∀ x,aQ Hi DZ none Tryz.f46 qj x=qj.m x:=by intro x;kernel_rfl
theorem SG:au Tryz.prog 46:=aq (fn:=Tryz.f46) (by kernel_rfl) rfl (by decide)
theorem Tb:aE Tryz.prog 46 qj:=aB (X:=Hi) (.nil _) (by kernel_rfl) qj DZ none (by kernel_rfl) (fun x y h=>(QO x).trans h)
def zy:List (Nat×Ann):=[]
noncomputable def kR:az:=⟨[.val .hnd,.arR aC],[.val bW],fun x=>ot x.1 x.2.1⟩
noncomputable def Bp:Cx:=⟨Tryz.prog,[(43,gd),(46,qj),(52,pH)],[]⟩
theorem Kr:∀ x,aQ Bp zy none Tryz.f32 kR x=kR.m x:=by intro x;kernel_rfl
theorem MC:au Tryz.prog 32:=aq (fn:=Tryz.f32) (by kernel_rfl) rfl (by decide)
theorem MF:aE Tryz.prog 32 kR:=aB (X:=Bp) (.cons p9 pS (.cons Tb SG (.cons Mg Mb (.nil _)))) (by kernel_rfl) kR zy none (by kernel_rfl) (fun x y h=>(Kr x).trans h)
def xe:List (Nat×Ann):=[(1,⟨[(0,.ref 2000 0),(1,.val tI),(10,.val (.slice aF)),(11,.val tI),(12,.val tI)],[(2000,abY)],[.ar aC],aV _⟩),
 (200001,⟨[],[(2000,abY)],[.ar aC],fun _=>0⟩)]
noncomputable def gK:az:=⟨[.box [.val bB,.val (.slice aF),.map tI .hnd,.row 133 ax,.row 177 bR,.val tI],.val tI,.ar aC],[],fun x=>jq x.1 x.2.1 x.2.2.1⟩
noncomputable def zH:Cx:=⟨Tryz.prog,[(32,kR),(113,iU)],[]⟩
theorem H9:∀ x,aQ zH xe none Tryz.f58 gK x=gK.m x:=by intro x;kernel_rfl
theorem zK:au Tryz.prog 58:=aq (fn:=Tryz.f58) (by kernel_rfl) rfl (by decide)
theorem zM:aE Tryz.prog 58 gK:=aB (X:=zH) (.cons MF MC (.cons Iu Ie (.nil _))) (by kernel_rfl) gK xe none (by kernel_rfl) (fun x y h=>(H9 x).trans h)
def LF:List (Nat×Ann):=[]
noncomputable def yd:az:=⟨[.val bB,.val (.slice aF),.val tI,.ar aC],[.box [.val bB,.val (.slice aF),.map tI .hnd,.row 133 ax,.row 177 bR,.val tI],.val tI],fun x=>Lb x.1 x.2.1 x.2.2.1 x.2.2.2.1⟩
noncomputable def P8:Cx:=⟨Tryz.prog,[(55,ld),(56,jW),(57,ir),(58,gK)],[]⟩
theorem Xg:∀ x,aQ P8 LF none Tryz.f30 yd x=yd.m x:=by intro x;kernel_rfl
theorem Y7:au Tryz.prog 30:=aq (fn:=Tryz.f30) (by kernel_rfl) rfl (by decide)
theorem Zj:aE Tryz.prog 30 yd:=aB (X:=P8) (.cons Gc FO (.cons vC vr (.cons AA Ar (.cons zM zK (.nil _))))) (by kernel_rfl) yd LF none (by kernel_rfl) (fun x y h=>(Xg x).trans h)
def G7:List (Nat×Ann):=[]
noncomputable def tP:az:=⟨[.val bB,.val (.slice aF),.val tI,.ar aC],[.val .hnd,.val tI],fun x=>EN x.1 x.2.1 x.2.2.1 x.2.2.2.1⟩
noncomputable def LU:Cx:=⟨Tryz.prog,[(55,ld),(56,jW),(57,ir),(58,gK)],[]⟩
theorem TZ:∀ x,aQ LU G7 none Tryz.f30 tP x=tP.m x:=by intro x;kernel_rfl
theorem Wf:au Tryz.prog 30:=aq (fn:=Tryz.f30) (by kernel_rfl) rfl (by decide)
theorem Wn:aE Tryz.prog 30 tP:=aB (X:=LU) (.cons Gc FO (.cons vC vr (.cons AA Ar (.cons zM zK (.nil _))))) (by kernel_rfl) tP G7 none (by kernel_rfl) (fun x y h=>(TZ x).trans h)
def th:List (Nat×Ann):=[(3,⟨[(0,.ref 2000 0),(3,.own 68 .hnd),(11,.rowR 11),(12,.val tI),(13,.val tI)],[(2000,abZ)],[.rowC 11 3 tI,.rowC 10250004 133 ax,.rowC 10250005 177 bR,.mapC 10250003 tI .hnd],aV _⟩),
 (200003,⟨[(3,.own 68 .hnd)],[(2000,abZ)],[.rowC 10250004 133 ax,.rowC 10250005 177 bR,.mapC 10250003 tI .hnd],fun _=>0⟩)]
noncomputable def gW:az:=⟨[.box [.val bB,.val (.slice aF),.map tI .hnd,.row 133 ax,.row 177 bR,.val tI]],[.row 68 .hnd],fun x=>mF x.1⟩
noncomputable def vn:Cx:=⟨Tryz.prog,[],[(76,acw),(77,acy)]⟩
theorem Ev:∀ x,aQ vn th none Tryz.f31 gW x=gW.m x:=by intro x;kernel_rfl
theorem FQ:au Tryz.prog 31:=aq (fn:=Tryz.f31) (by kernel_rfl) rfl (by decide)
theorem Ge:aE Tryz.prog 31 gW:=aB (X:=vn) (.aaC afv aft (.aaC afw afu (.nil _))) (by kernel_rfl) gW th none (by kernel_rfl) (fun x y h=>(Ev x).trans h)
def IZ:List (Nat×Ann):=[(4,⟨[(0,.val .str),(23,.val tI),(24,.val tI)],[],[],aV _⟩),
 (200004,⟨[],[],[],fun _=>0⟩)]
noncomputable def vX:az:=⟨[.val .str],[.val .bool],fun x=>OC x.1⟩
noncomputable def Nf:Cx:=⟨Tryz.prog,[],[]⟩
theorem VZ:∀ x,aQ Nf IZ none Tryz.f121 vX x=vX.m x:=by intro x;kernel_rfl
theorem XC:au Tryz.prog 121:=aq (fn:=Tryz.f121) (by kernel_rfl) rfl (by decide)
theorem Yd:aE Tryz.prog 121 vX:=aB (X:=Nf) (.nil _) (by kernel_rfl) vX IZ none (by kernel_rfl) (fun x y h=>(VZ x).trans h)
def IX:List (Nat×Ann):=[]
noncomputable def l9:az:=⟨[.val .str],[.val .bool],fun x=>kD x.1⟩
noncomputable def Nc:Cx:=⟨Tryz.prog,[(121,vX)],[]⟩
theorem VX:∀ x,aQ Nc IX none Tryz.f70 l9 x=l9.m x:=by intro x;kernel_rfl
theorem As:au Tryz.prog 70:=aq (fn:=Tryz.f70) (by kernel_rfl) rfl (by decide)
theorem AB:aE Tryz.prog 70 l9:=aB (X:=Nc) (.cons Yd XC (.nil _)) (by kernel_rfl) l9 IX none (by kernel_rfl) (fun x y h=>(VX x).trans h)
def I6:List (Nat×Ann):=[]
noncomputable def rN:az:=⟨[.val tI,.val tI,.val tI],[.val .bool],fun x=>zO x.1 x.2.1 x.2.2.1⟩
noncomputable def Ng:Cx:=⟨Tryz.prog,[],[]⟩
theorem V6:∀ x,aQ Ng I6 none Tryz.f135 rN x=rN.m x:=by intro x;kernel_rfl
theorem NK:au Tryz.prog 135:=aq (fn:=Tryz.f135) (by kernel_rfl) rfl (by decide)
theorem Og:aE Tryz.prog 135 rN:=aB (X:=Ng) (.nil _) (by kernel_rfl) rN I6 none (by kernel_rfl) (fun x y h=>(V6 x).trans h)
def LK:List (Nat×Ann):=[]
noncomputable def yj:az:=⟨[.val tI],[.val .bool],fun x=>Ry x.1⟩
noncomputable def Qd:Cx:=⟨Tryz.prog,[(135,rN)],[]⟩
theorem Xl:∀ x,aQ Qd LK none Tryz.f82 yj x=yj.m x:=by intro x;kernel_rfl
theorem Zb:au Tryz.prog 82:=aq (fn:=Tryz.f82) (by kernel_rfl) rfl (by decide)
theorem Zn:aE Tryz.prog 82 yj:=aB (X:=Qd) (.cons Og NK (.nil _)) (by kernel_rfl) yj LK none (by kernel_rfl) (fun x y h=>(Xl x).trans h)
def LG:List (Nat×Ann):=[]
noncomputable def nO:az:=⟨[.val tI],[.val .bool],fun x=>zf x.1⟩
noncomputable def P9:Cx:=⟨Tryz.prog,[(82,yj)],[]⟩
theorem Xh:∀ x,aQ P9 LG none Tryz.f39 nO x=nO.m x:=by intro x;kernel_rfl
theorem Ce:au Tryz.prog 39:=aq (fn:=Tryz.f39) (by kernel_rfl) rfl (by decide)
theorem Ch:aE Tryz.prog 39 nO:=aB (X:=P9) (.cons Zn Zb (.nil _)) (by kernel_rfl) nO LG none (by kernel_rfl) (fun x y h=>(Xh x).trans h)
def Ja:List (Nat×Ann):=[(300001,⟨[(6,.val .bool)],[],[],fun _=>0⟩)]
noncomputable def jZ:az:=⟨[.val tI,.val tI,.val tI],[.val .bool],fun x=>lX x.1 x.2.1 x.2.2.1⟩
noncomputable def Nk:Cx:=⟨Tryz.prog,[],[]⟩
theorem Wa:∀ x,aQ Nk Ja none Tryz.f38 jZ x=jZ.m x:=by intro x;kernel_rfl
theorem vu:au Tryz.prog 38:=aq (fn:=Tryz.f38) (by kernel_rfl) rfl (by decide)
theorem vE:aE Tryz.prog 38 jZ:=aB (X:=Nk) (.nil _) (by kernel_rfl) jZ Ja none (by kernel_rfl) (fun x y h=>(Wa x).trans h)
def Ab:List (Nat×Ann):=[]
noncomputable def jz:az:=⟨[.val ax],[.val tI],fun x=>mG x.1⟩
noncomputable def C8:Cx:=⟨Tryz.prog,[(135,rN)],[]⟩
theorem Mx:∀ x,aQ C8 Ab none Tryz.f94 jz x=jz.m x:=by intro x;kernel_rfl
theorem Dh:au Tryz.prog 94:=aq (fn:=Tryz.f94) (by kernel_rfl) rfl (by decide)
theorem Ds:aE Tryz.prog 94 jz:=aB (X:=C8) (.cons Og NK (.nil _)) (by kernel_rfl) jz Ab none (by kernel_rfl) (fun x y h=>(Mx x).trans h)
def LO:List (Nat×Ann):=[]
noncomputable def uk:az:=⟨[.val tI],[.val ax],fun x=>BW x.1⟩
noncomputable def Qh:Cx:=⟨Tryz.prog,[],[]⟩
theorem Xp:∀ x,aQ Qh LO none Tryz.f122 uk x=uk.m x:=by intro x;kernel_rfl
theorem Qs:au Tryz.prog 122:=aq (fn:=Tryz.f122) (by kernel_rfl) rfl (by decide)
theorem Qv:aE Tryz.prog 122 uk:=aB (X:=Qh) (.nil _) (by kernel_rfl) uk LO none (by kernel_rfl) (fun x y h=>(Xp x).trans h)
def RT:List (Nat×Ann):=[(2,⟨[(0,.val tI),(2,.ref 2 0),(3,.ref 3 0)],[(2,gj),(3,gj)],[],aV _⟩),
 (200002,⟨[(2,.ref 2 0),(3,.ref 3 0)],[(2,gj),(3,gj)],[],fun _=>0⟩)]
noncomputable def BY:az:=⟨[.val tI],[.val bE],fun x=>Pm x.1⟩
noncomputable def Xd:Cx:=⟨Tryz.prog,[],[]⟩
theorem ab6:∀ x,aQ Xd RT none Tryz.f96 BY x=BY.m x:=by intro x;kernel_rfl
theorem XB:au Tryz.prog 96:=aq (fn:=Tryz.f96) (by kernel_rfl) rfl (by decide)
theorem Yc:aE Tryz.prog 96 BY:=aB (X:=Xd) (.nil _) (by kernel_rfl) BY RT none (by kernel_rfl) (fun x y h=>(ab6 x).trans h)
def He:List (Nat×Ann):=[(1,⟨[(1,.ref 1 0),(2,.ref 2 0)],[(1,nY),(2,gj)],[],aV _⟩),
 (200001,⟨[(1,.ref 1 0),(2,.ref 2 0)],[(1,nY),(2,gj)],[],fun _=>0⟩)]
noncomputable def pJ:az:=⟨[.val bE],[.val bE],fun x=>qi x.1⟩
noncomputable def LX:Cx:=⟨Tryz.prog,[],[]⟩
theorem T8:∀ x,aQ LX He none Tryz.f143 pJ x=pJ.m x:=by intro x;kernel_rfl
theorem Me:au Tryz.prog 143:=aq (fn:=Tryz.f143) (by kernel_rfl) rfl (by decide)
theorem Mi:aE Tryz.prog 143 pJ:=aB (X:=LX) (.nil _) (by kernel_rfl) pJ He none (by kernel_rfl) (fun x y h=>(T8 x).trans h)
def G9:List (Nat×Ann):=[(3,⟨[(3,.ref 3 0),(4,.ref 4 0),(5,.ref 5 0),(27,.val (.slice tI)),(28,.val tI),(29,.val tI)],[(3,nY),(4,gj),(5,Jg)],[.rowC 24 3 tI],aV _⟩),
 (6,⟨[(3,.ref 3 0),(4,.ref 4 0),(5,.ref 5 0),(6,.val tI),(7,.val tI),(27,.val (.slice tI)),(28,.val tI),(29,.val tI),(35,.val (.slice tI)),(36,.val tI),(37,.val tI)],[(3,nY),(4,gj),(5,Jg)],[.rowC 24 3 tI],aV _⟩),
 (14,⟨[(4,.ref 4 0),(5,.ref 5 0),(86,.val tI),(87,.val tI)],[(4,gj),(5,Jg)],[.rowC 24 3 tI],aV _⟩),
 (200003,⟨[(4,.ref 4 0),(5,.ref 5 0)],[(4,gj),(5,Jg)],[.rowC 24 3 tI],fun _=>0⟩),
 (200006,⟨[(3,.ref 3 0),(4,.ref 4 0),(5,.ref 5 0),(27,.val (.slice tI)),(28,.val tI),(29,.val tI)],[(3,nY),(4,gj),(5,Jg)],[.rowC 24 3 tI],fun _=>0⟩),
 (200014,⟨[(4,.ref 4 0),(5,.ref 5 0)],[(4,gj),(5,Jg)],[.rowC 24 3 tI],fun _=>0⟩)]
noncomputable def pI:az:=⟨[.val bE,.val bE],[.val bE],fun x=>wR x.1 x.2.1⟩
noncomputable def LW:Cx:=⟨Tryz.prog,[(143,pJ)],[]⟩
theorem T7:∀ x,aQ LW G9 none Tryz.f95 pI x=pI.m x:=by intro x;kernel_rfl
theorem Mc:au Tryz.prog 95:=aq (fn:=Tryz.f95) (by kernel_rfl) rfl (by decide)
theorem Mh:aE Tryz.prog 95 pI:=aB (X:=LW) (.cons Mi Me (.nil _)) (by kernel_rfl) pI G9 none (by kernel_rfl) (fun x y h=>(T7 x).trans h)
def LI:List (Nat×Ann):=[(3,⟨[(2,.ref 2 0),(3,.ref 3 0),(5,.val tI),(6,.val tI)],[(2,gj),(3,nY)],[],aV _⟩),
 (200003,⟨[(2,.ref 2 0),(3,.ref 3 0)],[(2,gj),(3,nY)],[],fun _=>0⟩)]
noncomputable def yg:az:=⟨[.val tI],[.val bE],fun x=>Lm x.1⟩
noncomputable def Qb:Cx:=⟨Tryz.prog,[(95,pI),(96,BY)],[]⟩
theorem Xj:∀ x,aQ Qb LI none Tryz.f98 yg x=yg.m x:=by intro x;kernel_rfl
theorem Y9:au Tryz.prog 98:=aq (fn:=Tryz.f98) (by kernel_rfl) rfl (by decide)
theorem Zl:aE Tryz.prog 98 yg:=aB (X:=Qb) (.cons Mh Mc (.cons Yc XB (.nil _))) (by kernel_rfl) yg LI none (by kernel_rfl) (fun x y h=>(Xj x).trans h)
def RS:List (Nat×Ann):=[]
noncomputable def GB:az:=⟨[.val ax,.val tI],[.val bE],fun x=>EP x.1 x.2.1⟩
noncomputable def Xc:Cx:=⟨Tryz.prog,[(95,pI),(96,BY),(98,yg)],[]⟩
theorem ab5:∀ x,aQ Xc RS none Tryz.f103 GB x=GB.m x:=by intro x;kernel_rfl
theorem adE:au Tryz.prog 103:=aq (fn:=Tryz.f103) (by kernel_rfl) rfl (by decide)
theorem adZ:aE Tryz.prog 103 GB:=aB (X:=Xc) (.cons Mh Mc (.cons Yc XB (.cons Zl Y9 (.nil _)))) (by kernel_rfl) GB RS none (by kernel_rfl) (fun x y h=>(ab5 x).trans h)
def LH:List (Nat×Ann):=[]
noncomputable def yf:az:=⟨[.val bE],[.val bE],fun x=>Lj x.1⟩
noncomputable def Qa:Cx:=⟨Tryz.prog,[],[]⟩
theorem Xi:∀ x,aQ Qa LH none Tryz.f100 yf x=yf.m x:=by intro x;kernel_rfl
theorem Y8:au Tryz.prog 100:=aq (fn:=Tryz.f100) (by kernel_rfl) rfl (by decide)
theorem Zk:aE Tryz.prog 100 yf:=aB (X:=Qa) (.nil _) (by kernel_rfl) yf LH none (by kernel_rfl) (fun x y h=>(Xi x).trans h)
def LL:List (Nat×Ann):=[(4,⟨[(0,.val (.slice tI)),(1,.val (.slice tI)),(5,.val tI)],[],[],aV _⟩),
 (200004,⟨[],[],[],fun _=>0⟩)]
noncomputable def yl:az:=⟨[.val (.slice tI),.val (.slice tI)],[.val tI],fun x=>Ln x.1 x.2.1⟩
noncomputable def Qe:Cx:=⟨Tryz.prog,[],[]⟩
theorem Xm:∀ x,aQ Qe LL none Tryz.f146 yl x=yl.m x:=by intro x;kernel_rfl
theorem Zc:au Tryz.prog 146:=aq (fn:=Tryz.f146) (by kernel_rfl) rfl (by decide)
theorem Zo:aE Tryz.prog 146 yl:=aB (X:=Qe) (.nil _) (by kernel_rfl) yl LL none (by kernel_rfl) (fun x y h=>(Xm x).trans h)
def LJ:List (Nat×Ann):=[]
noncomputable def yh:az:=⟨[.val (.slice tI),.val tI],[.val tI],fun x=>BV x.1 x.2.1⟩
noncomputable def Qc:Cx:=⟨Tryz.prog,[],[]⟩
theorem Xk:∀ x,aQ Qc LJ none Tryz.f147 yh x=yh.m x:=by intro x;kernel_rfl
theorem Za:au Tryz.prog 147:=aq (fn:=Tryz.f147) (by kernel_rfl) rfl (by decide)
theorem Zm:aE Tryz.prog 147 yh:=aB (X:=Qc) (.nil _) (by kernel_rfl) yh LJ none (by kernel_rfl) (fun x y h=>(Xk x).trans h)
def MO:List (Nat×Ann):=[(7,⟨[(2,.ref 2 0),(3,.ref 3 0),(4,.ref 4 0),(5,.ref 5 0),(6,.val tI),(31,.val tI),(32,.val tI)],[(2,nY),(3,nY),(4,gj),(5,gj)],[],aV _⟩),
 (19,⟨[(2,.ref 2 0),(3,.ref 3 0),(4,.ref 4 0),(9,.ref 9 0),(10,.val tI),(70,.val tI),(71,.val tI)],[(2,nY),(3,nY),(4,gj),(9,gj)],[],aV _⟩),
 (100003,⟨[(2,.ref 2 0),(3,.ref 3 0),(4,.ref 4 0)],[(2,nY),(3,nY),(4,gj)],[],fun _=>0⟩),
 (100012,⟨[(2,.ref 2 0),(3,.ref 3 0),(4,.ref 4 0),(5,.ref 5 0),(6,.val tI),(8,.val tI),(31,.val tI),(32,.val tI)],[(2,nY),(3,nY),(4,gj),(5,gj)],[],fun _=>0⟩),
 (200007,⟨[(4,.ref 4 0),(5,.ref 5 0)],[(4,gj),(5,gj)],[],fun _=>0⟩),
 (200019,⟨[(4,.ref 4 0),(9,.ref 9 0)],[(4,gj),(9,gj)],[],fun _=>0⟩)]
noncomputable def AX:az:=⟨[.val bE,.val bE],[.val bE],fun x=>Pn x.1 x.2.1⟩
noncomputable def R9:Cx:=⟨Tryz.prog,[(143,pJ),(146,yl),(147,yh)],[]⟩
theorem YQ:∀ x,aQ R9 MO none Tryz.f102 AX x=AX.m x:=by intro x;kernel_rfl
theorem aaS:au Tryz.prog 102:=aq (fn:=Tryz.f102) (by kernel_rfl) rfl (by decide)
theorem aba:aE Tryz.prog 102 AX:=aB (X:=R9) (.cons Mi Me (.cons Zo Zc (.cons Zm Za (.nil _)))) (by kernel_rfl) AX MO none (by kernel_rfl) (fun x y h=>(YQ x).trans h)
def MP:List (Nat×Ann):=[]
noncomputable def AY:az:=⟨[.val bE],[.val tI],fun x=>Po x.1⟩
noncomputable def Sa:Cx:=⟨Tryz.prog,[],[]⟩
theorem YR:∀ x,aQ Sa MP none Tryz.f99 AY x=AY.m x:=by intro x;kernel_rfl
theorem aaT:au Tryz.prog 99:=aq (fn:=Tryz.f99) (by kernel_rfl) rfl (by decide)
theorem abb:aE Tryz.prog 99 AY:=aB (X:=Sa) (.nil _) (by kernel_rfl) AY MP none (by kernel_rfl) (fun x y h=>(YR x).trans h)
def PV:List (Nat×Ann):=[]
noncomputable def DD:az:=⟨[.val bE,.val bE],[.val tI],fun x=>OB x.1 x.2.1⟩
noncomputable def Vd:Cx:=⟨Tryz.prog,[(99,AY),(100,yf),(102,AX)],[]⟩
theorem aaF:∀ x,aQ Vd PV none Tryz.f123 DD x=DD.m x:=by intro x;kernel_rfl
theorem ack:au Tryz.prog 123:=aq (fn:=Tryz.f123) (by kernel_rfl) rfl (by decide)
theorem acQ:aE Tryz.prog 123 DD:=aB (X:=Vd) (.cons abb aaT (.cons Zk Y8 (.cons aba aaS (.nil _)))) (by kernel_rfl) DD PV none (by kernel_rfl) (fun x y h=>(aaF x).trans h)
def PX:List (Nat×Ann):=[]
noncomputable def sw:az:=⟨[.val ax,.val ax],[.val tI],fun x=>tM x.1 x.2.1⟩
noncomputable def Vf:Cx:=⟨Tryz.prog,[(103,GB),(123,DD)],[]⟩
theorem aaH:∀ x,aQ Vf PX none Tryz.f73 sw x=sw.m x:=by intro x;kernel_rfl
theorem HB:au Tryz.prog 73:=aq (fn:=Tryz.f73) (by kernel_rfl) rfl (by decide)
theorem HI:aE Tryz.prog 73 sw:=aB (X:=Vf) (.cons adZ adE (.cons acQ ack (.nil _))) (by kernel_rfl) sw PX none (by kernel_rfl) (fun x y h=>(aaH x).trans h)
def zB:List (Nat×Ann):=[(300001,⟨[(32,.val .bool)],[],[],fun _=>0⟩)]
noncomputable def gB:az:=⟨[.val ax,.val .bool],[.val tI],fun x=>kY x.1 x.2.1⟩
noncomputable def Bt:Cx:=⟨Tryz.prog,[(73,sw),(94,jz),(122,uk)],[]⟩
theorem Ku:∀ x,aQ Bt zB none Tryz.f71 gB x=gB.m x:=by intro x;kernel_rfl
theorem ur:au Tryz.prog 71:=aq (fn:=Tryz.f71) (by kernel_rfl) rfl (by decide)
theorem ux:aE Tryz.prog 71 gB:=aB (X:=Bt) (.cons HI HB (.cons Ds Dh (.cons Qv Qs (.nil _)))) (by kernel_rfl) gB zB none (by kernel_rfl) (fun x y h=>(Ku x).trans h)
def CO:List (Nat×Ann):=[]
noncomputable def lf:az:=⟨[.val ax],[.val tI],fun x=>tL x.1⟩
noncomputable def FB:Cx:=⟨Tryz.prog,[(73,sw),(94,jz),(122,uk)],[]⟩
theorem Pz:∀ x,aQ FB CO none Tryz.f184 lf x=lf.m x:=by intro x;kernel_rfl
theorem FR:au Tryz.prog 184:=aq (fn:=Tryz.f184) (by kernel_rfl) rfl (by decide)
theorem Gf:aE Tryz.prog 184 lf:=aB (X:=FB) (.cons HI HB (.cons Ds Dh (.cons Qv Qs (.nil _)))) (by kernel_rfl) lf CO none (by kernel_rfl) (fun x y h=>(Pz x).trans h)
def Ea:List (Nat×Ann):=[(300004,⟨[(16,.val .bool)],[],[],fun _=>0⟩)]
noncomputable def qn:az:=⟨[.val bB,.val tI],[.val tI],fun x=>AR x.1 x.2.1⟩
noncomputable def Hq:Cx:=⟨Tryz.prog,[(38,jZ),(70,l9),(71,gB),(184,lf)],[]⟩
theorem QW:∀ x,aQ Hq Ea none Tryz.f131 qn x=qn.m x:=by intro x;kernel_rfl
theorem SI:au Tryz.prog 131:=aq (fn:=Tryz.f131) (by kernel_rfl) rfl (by decide)
theorem Td:aE Tryz.prog 131 qn:=aB (X:=Hq) (.cons vE vu (.cons AB As (.cons ux ur (.cons Gf FR (.nil _))))) (by kernel_rfl) qn Ea none (by kernel_rfl) (fun x y h=>(QW x).trans h)
def CN:List (Nat×Ann):=[(12,⟨[(1,.ref 1 0),(51,.val tI),(52,.val tI)],[(1,[.val .str,.val .str,.val .str,.val tI,.val tI,.val (.slice fo)])],[],aV _⟩),
 (200012,⟨[],[],[],fun _=>0⟩)]
noncomputable def oG:az:=⟨[.val bB],[.val tI],fun x=>yO x.1⟩
noncomputable def FA:Cx:=⟨Tryz.prog,[(38,jZ),(39,nO),(70,l9),(131,qn)],[]⟩
theorem Py:∀ x,aQ FA CN none Tryz.f80 oG x=oG.m x:=by intro x;kernel_rfl
theorem Rg:au Tryz.prog 80:=aq (fn:=Tryz.f80) (by kernel_rfl) rfl (by decide)
theorem Rp:aE Tryz.prog 80 oG:=aB (X:=FA) (.cons vE vu (.cons Ch Ce (.cons AB As (.cons Td SI (.nil _))))) (by kernel_rfl) oG CN none (by kernel_rfl) (fun x y h=>(Py x).trans h)
def Fo:List (Nat×Ann):=[]
noncomputable def rP:az:=⟨[.val tI],[.val .bool],fun x=>CC x.1⟩
noncomputable def Jq:Cx:=⟨Tryz.prog,[(38,jZ)],[]⟩
theorem Sq:∀ x,aQ Jq Fo none Tryz.f132 rP x=rP.m x:=by intro x;kernel_rfl
theorem Uh:au Tryz.prog 132:=aq (fn:=Tryz.f132) (by kernel_rfl) rfl (by decide)
theorem Uy:aE Tryz.prog 132 rP:=aB (X:=Jq) (.cons vE vu (.nil _)) (by kernel_rfl) rP Fo none (by kernel_rfl) (fun x y h=>(Sq x).trans h)
def I9:List (Nat×Ann):=[(100005,⟨[(2,.ref 2 0),(3,.val tI),(7,.val .bool)],[(2,[.val .bool,.val .bool,.val .bool,.val .bool,.val .bool])],[],fun _=>0⟩)]
noncomputable def rQ:az:=⟨[.val tI],[.val IQ],fun x=>HQ x.1⟩
noncomputable def Nj:Cx:=⟨Tryz.prog,[],[]⟩
theorem V9:∀ x,aQ Nj I9 none Tryz.f66 rQ x=rQ.m x:=by intro x;kernel_rfl
theorem NM:au Tryz.prog 66:=aq (fn:=Tryz.f66) (by kernel_rfl) rfl (by decide)
theorem Oi:aE Tryz.prog 66 rQ:=aB (X:=Nj) (.nil _) (by kernel_rfl) rQ I9 none (by kernel_rfl) (fun x y h=>(V9 x).trans h)
def Bi:List (Nat×Ann):=[(300002,⟨[(8,.val .bool)],[],[],fun _=>0⟩),
 (300004,⟨[(20,.val .bool)],[],[],fun _=>0⟩),
 (300006,⟨[(29,.val .bool)],[],[],fun _=>0⟩),
 (300008,⟨[(38,.val .bool)],[],[],fun _=>0⟩),
 (300010,⟨[(53,.val .bool)],[],[],fun _=>0⟩),
 (300013,⟨[(114,.val .bool)],[],[],fun _=>0⟩)]
noncomputable def nu:az:=⟨[.val aF],[.val tI],fun x=>w5 x.1⟩
noncomputable def Ei:Cx:=⟨Tryz.prog,[(38,jZ),(39,nO),(66,rQ),(70,l9),(71,gB),(184,lf)],[]⟩
theorem Nu:∀ x,aQ Ei Bi none Tryz.f133 nu x=nu.m x:=by intro x;kernel_rfl
theorem PI:au Tryz.prog 133:=aq (fn:=Tryz.f133) (by kernel_rfl) rfl (by decide)
theorem PR:aE Tryz.prog 133 nu:=aB (X:=Ei) (.cons vE vu (.cons Ch Ce (.cons Oi NM (.cons AB As (.cons ux ur (.cons Gf FR (.nil _))))))) (by kernel_rfl) nu Bi none (by kernel_rfl) (fun x y h=>(Nu x).trans h)
end Go.Proofs.SeatA
set_option maxRecDepth 100000
namespace Go.Proofs.SeatA
open Go.Dn Go.Md Go.Proofs
def Eb:List (Nat×Ann):=[(2,⟨[(22,.rowR 22),(23,.val tI),(24,.val tI)],[],[.rowC 22 3 tI],aV _⟩),
 (200002,⟨[],[],[],fun _=>0⟩)]
noncomputable def qo:az:=⟨[.val aF,.val aF],[.val tI],fun x=>vR x.1 x.2.1⟩
noncomputable def Hr:Cx:=⟨Tryz.prog,[],[]⟩
theorem QX:∀ x,aQ Hr Eb none Tryz.f134 qo x=qo.m x:=by intro x;kernel_rfl
theorem SJ:au Tryz.prog 134:=aq (fn:=Tryz.f134) (by kernel_rfl) rfl (by decide)
theorem Te:aE Tryz.prog 134 qo:=aB (X:=Hr) (.nil _) (by kernel_rfl) qo Eb none (by kernel_rfl) (fun x y h=>(QX x).trans h)
def I8:List (Nat×Ann):=[(3,⟨[(1,.val tI),(5,.val tI),(8,.val (.slice aF)),(9,.val tI),(10,.val tI)],[],[],aV _⟩),
 (200003,⟨[(5,.val tI)],[],[],fun _=>0⟩)]
noncomputable def vZ:az:=⟨[.val (.slice aF),.val tI],[.val tI],fun x=>HL x.1 x.2.1⟩
noncomputable def Ni:Cx:=⟨Tryz.prog,[],[]⟩
theorem V8:∀ x,aQ Ni I8 none Tryz.f64 vZ x=vZ.m x:=by intro x;kernel_rfl
theorem XE:au Tryz.prog 64:=aq (fn:=Tryz.f64) (by kernel_rfl) rfl (by decide)
theorem Yf:aE Tryz.prog 64 vZ:=aB (X:=Ni) (.nil _) (by kernel_rfl) vZ I8 none (by kernel_rfl) (fun x y h=>(V8 x).trans h)
def CM:List (Nat×Ann):=[(4,⟨[(0,.val (.slice aF)),(9,.val (.slice aF)),(10,.val tI),(11,.val tI)],[],[],aV _⟩),
 (200004,⟨[],[],[],fun _=>0⟩),
 (300008,⟨[(21,.val .bool)],[],[],fun _=>0⟩),
 (300019,⟨[(70,.val .bool)],[],[],fun _=>0⟩)]
noncomputable def oF:az:=⟨[.val (.slice aF)],[.val tI],fun x=>yN x.1⟩
noncomputable def Fy:Cx:=⟨Tryz.prog,[(38,jZ),(39,nO),(64,vZ),(132,rP),(133,nu),(134,qo)],[]⟩
theorem Px:∀ x,aQ Fy CM none Tryz.f81 oF x=oF.m x:=by intro x;kernel_rfl
theorem Rf:au Tryz.prog 81:=aq (fn:=Tryz.f81) (by kernel_rfl) rfl (by decide)
theorem Ro:aE Tryz.prog 81 oF:=aB (X:=Fy) (.cons vE vu (.cons Ch Ce (.cons Yf XE (.cons Uy Uh (.cons PR PI (.cons Te SJ (.nil _))))))) (by kernel_rfl) oF CM none (by kernel_rfl) (fun x y h=>(Px x).trans h)
def PW:List (Nat×Ann):=[]
noncomputable def DE:az:=⟨[.val bB,.val (.slice aF)],[.val tI],fun x=>Tt x.1 x.2.1⟩
noncomputable def Ve:Cx:=⟨Tryz.prog,[(80,oG),(81,oF)],[]⟩
theorem aaG:∀ x,aQ Ve PW none Tryz.f37 DE x=DE.m x:=by intro x;kernel_rfl
theorem acm:au Tryz.prog 37:=aq (fn:=Tryz.f37) (by kernel_rfl) rfl (by decide)
theorem acR:aE Tryz.prog 37 DE:=aB (X:=Ve) (.cons Rp Rg (.cons Ro Rf (.nil _))) (by kernel_rfl) DE PW none (by kernel_rfl) (fun x y h=>(aaG x).trans h)
def I7:List (Nat×Ann):=[]
noncomputable def vY:az:=⟨[.val bB,.val (.slice aF),.val tI],[.val tI],fun x=>HK x.1 x.2.1 x.2.2.1⟩
noncomputable def Nh:Cx:=⟨Tryz.prog,[(37,DE),(39,nO)],[]⟩
theorem V7:∀ x,aQ Nh I7 none Tryz.f33 vY x=vY.m x:=by intro x;kernel_rfl
theorem XD:au Tryz.prog 33:=aq (fn:=Tryz.f33) (by kernel_rfl) rfl (by decide)
theorem Ye:aE Tryz.prog 33 vY:=aB (X:=Nh) (.cons acR acm (.cons Ch Ce (.nil _))) (by kernel_rfl) vY I7 none (by kernel_rfl) (fun x y h=>(V7 x).trans h)
def IY:List (Nat×Ann):=[(1,⟨[(1,.ref 1 0),(2,.ref 2 0)],[(1,zE),(2,zE)],[],aV _⟩),
 (200001,⟨[(1,.ref 1 0),(2,.ref 2 0)],[(1,zE),(2,zE)],[],fun _=>0⟩)]
noncomputable def jY:az:=⟨[.val ax],[.val ax],fun x=>fZ x.1⟩
noncomputable def Nd:Cx:=⟨Tryz.prog,[],[]⟩
theorem VY:∀ x,aQ Nd IY none Tryz.f49 jY x=jY.m x:=by intro x;kernel_rfl
theorem vt:au Tryz.prog 49:=aq (fn:=Tryz.f49) (by kernel_rfl) rfl (by decide)
theorem vD:aE Tryz.prog 49 jY:=aB (X:=Nd) (.nil _) (by kernel_rfl) jY IY none (by kernel_rfl) (fun x y h=>(VY x).trans h)
def LM:List (Nat×Ann):=[(3,⟨[(3,.val tI),(8,.val tI),(9,.val tI)],[],[],aV _⟩),
 (200003,⟨[(3,.val tI)],[],[],fun _=>0⟩)]
noncomputable def qI:az:=⟨[.val ax],[.val tI],fun x=>qE x.1⟩
noncomputable def Qf:Cx:=⟨Tryz.prog,[],[]⟩
theorem Xn:∀ x,aQ Qf LM none Tryz.f115 qI x=qI.m x:=by intro x;kernel_rfl
theorem Ik:au Tryz.prog 115:=aq (fn:=Tryz.f115) (by kernel_rfl) rfl (by decide)
theorem Iz:aE Tryz.prog 115 qI:=aB (X:=Qf) (.nil _) (by kernel_rfl) qI LM none (by kernel_rfl) (fun x y h=>(Xn x).trans h)
def MS:List (Nat×Ann):=[]
noncomputable def sX:az:=⟨[.val ax,.val ax],[.val ax],fun x=>mH x.1 x.2.1⟩
noncomputable def Se:Cx:=⟨Tryz.prog,[(49,jY),(115,qI)],[]⟩
theorem YU:∀ x,aQ Se MS none Tryz.f117 sX x=sX.m x:=by intro x;kernel_rfl
theorem KL:au Tryz.prog 117:=aq (fn:=Tryz.f117) (by kernel_rfl) rfl (by decide)
theorem K8:aE Tryz.prog 117 sX:=aB (X:=Se) (.cons vD vt (.cons Iz Ik (.nil _))) (by kernel_rfl) sX MS none (by kernel_rfl) (fun x y h=>(YU x).trans h)
def LN:List (Nat×Ann):=[]
noncomputable def qJ:az:=⟨[.val ax,.val ax],[.val ax],fun x=>zh x.1 x.2.1⟩
noncomputable def Qg:Cx:=⟨Tryz.prog,[(117,sX)],[]⟩
theorem Xo:∀ x,aQ Qg LN none Tryz.f74 qJ x=qJ.m x:=by intro x;kernel_rfl
theorem Il:au Tryz.prog 74:=aq (fn:=Tryz.f74) (by kernel_rfl) rfl (by decide)
theorem IA:aE Tryz.prog 74 qJ:=aB (X:=Qg) (.cons K8 KL (.nil _)) (by kernel_rfl) qJ LN none (by kernel_rfl) (fun x y h=>(Xo x).trans h)
def MR:List (Nat×Ann):=[]
noncomputable def sW:az:=⟨[.val bW],[.val ax],fun x=>zP x.1⟩
noncomputable def Sd:Cx:=⟨Tryz.prog,[(74,qJ)],[]⟩
theorem YT:∀ x,aQ Sd MR none Tryz.f114 sW x=sW.m x:=by intro x;kernel_rfl
theorem KK:au Tryz.prog 114:=aq (fn:=Tryz.f114) (by kernel_rfl) rfl (by decide)
theorem K7:aE Tryz.prog 114 sW:=aB (X:=Sd) (.cons IA Il (.nil _)) (by kernel_rfl) sW MR none (by kernel_rfl) (fun x y h=>(YT x).trans h)
def Fp:List (Nat×Ann):=[]
noncomputable def nW:az:=⟨[.val bW],[.val bW],fun x=>qF x.1⟩
noncomputable def Jr:Cx:=⟨Tryz.prog,[(74,qJ),(114,sW)],[]⟩
theorem Sr:∀ x,aQ Jr Fp none Tryz.f78 nW x=nW.m x:=by intro x;kernel_rfl
theorem JK:au Tryz.prog 78:=aq (fn:=Tryz.f78) (by kernel_rfl) rfl (by decide)
theorem JT:aE Tryz.prog 78 nW:=aB (X:=Jr) (.cons IA Il (.cons K7 KK (.nil _))) (by kernel_rfl) nW Fp none (by kernel_rfl) (fun x y h=>(Sr x).trans h)
def Bg:List (Nat×Ann):=[(2,⟨[(1,.val tI),(10,.val (.slice aX)),(11,.val tI),(12,.val tI)],[],[],aV _⟩),
 (200002,⟨[],[],[],fun _=>0⟩)]
noncomputable def kr:az:=⟨[.val (.ptr fB),.val tI],[.val tI],fun x=>rK x.1 x.2.1⟩
noncomputable def Eg:Cx:=⟨Tryz.prog,[],[]⟩
theorem Ns:∀ x,aQ Eg Bg none Tryz.f40 kr x=kr.m x:=by intro x;kernel_rfl
theorem El:au Tryz.prog 40:=aq (fn:=Tryz.f40) (by kernel_rfl) rfl (by decide)
theorem En:aE Tryz.prog 40 kr:=aB (X:=Eg) (.nil _) (by kernel_rfl) kr Bg none (by kernel_rfl) (fun x y h=>(Ns x).trans h)
def D9:List (Nat×Ann):=[]
noncomputable def qm:az:=⟨[.val (.ptr fB),.val bW],[.val tI],fun x=>AQ x.1 x.2.1⟩
noncomputable def Hp:Cx:=⟨Tryz.prog,[(115,qI)],[]⟩
theorem QV:∀ x,aQ Hp D9 none Tryz.f116 qm x=qm.m x:=by intro x;kernel_rfl
theorem SH:au Tryz.prog 116:=aq (fn:=Tryz.f116) (by kernel_rfl) rfl (by decide)
theorem Tc:aE Tryz.prog 116 qm:=aB (X:=Hp) (.cons Iz Ik (.nil _)) (by kernel_rfl) qm D9 none (by kernel_rfl) (fun x y h=>(QV x).trans h)
def Ac:List (Nat×Ann):=[(100017,⟨[(0,.val (.ptr fB)),(5,.ref 5 0),(7,.ref 7 0),(8,.ref 8 0),(64,.val tI),(65,.val .bool)],[(5,BH),(7,ZH),(8,ZI)],[],fun _=>0⟩),
 (100022,⟨[(0,.val (.ptr fB)),(5,.ref 5 0),(7,.ref 7 0),(8,.ref 8 0),(64,.val tI),(72,.val .bool)],[(5,BH),(7,ZH),(8,ZI)],[],fun _=>0⟩),
 (300007,⟨[(37,.val .bool)],[],[],fun _=>0⟩),
 (300009,⟨[(51,.val .bool)],[],[],fun _=>0⟩),
 (300025,⟨[(121,.val .bool)],[],[],fun _=>0⟩)]
noncomputable def mc:az:=⟨[.val (.ptr fB),.val tI],[.val tI],fun x=>uR x.1 x.2.1⟩
noncomputable def C9:Cx:=⟨Tryz.prog,[(40,kr),(66,rQ),(73,sw),(114,sW),(115,qI),(116,qm),(117,sX)],[]⟩
theorem My:∀ x,aQ C9 Ac none Tryz.f67 mc x=mc.m x:=by intro x;kernel_rfl
theorem NL:au Tryz.prog 67:=aq (fn:=Tryz.f67) (by kernel_rfl) rfl (by decide)
theorem Oh:aE Tryz.prog 67 mc:=aB (X:=C9) (.cons En El (.cons Oi NM (.cons HI HB (.cons K7 KK (.cons Iz Ik (.cons Tc SH (.cons K8 KL (.nil _)))))))) (by kernel_rfl) mc Ac none (by kernel_rfl) (fun x y h=>(My x).trans h)
noncomputable def Ai:Cx:=⟨Tryz.prog,[(49,jY)],[]⟩
noncomputable def xD:Code:=(Tryz.f129.body).getD .skip
theorem Jx:∀ (e:TypeId) (vs:List Value) (l:(List aa)) (ql:(List ak)) (i:Nat),den Ai [] xD (List CV×TypeId×(List ak)) (KB Tryz.f129.ntmps 6 9 e aF aX vs l ql i) (acd aX)=kP l ql i (fun q=>some (mR 6 9 aF l vs,e,q)):=by intro e vs l ql i;kernel_rfl
def ZT:BC:= .elt 6 9 aF aX iA
theorem aeP:au Tryz.prog 129:=aq (fn:=Tryz.f129) (by kernel_rfl) rfl (by decide)
theorem aeQ:OQ Tryz.prog 129 ZT:=afr (X:=Ai) (.cons vD vt (.nil _)) (by kernel_rfl) (fn:=Tryz.f129) (c:=xD) 6 9 aF aX iA [] (by kernel_rfl) (by kernel_rfl) (by kernel_rfl) (by decide) (fun e vs l ql i=>(Jx e vs l ql i).trans (IK l ql i _))
def rZ:List (Nat×Ann):=[]
noncomputable def gI:az:=⟨[.val (.slice bR)],[.row 177 bR],fun x=>iS x.1⟩
noncomputable def uL:Cx:=⟨Tryz.prog,[],[]⟩
theorem DP:∀ x,aQ uL rZ none Tryz.f130 gI x=gI.m x:=by intro x;kernel_rfl
theorem ED:au Tryz.prog 130:=aq (fn:=Tryz.f130) (by kernel_rfl) rfl (by decide)
theorem EL:aE Tryz.prog 130 gI:=aB (X:=uL) (.nil _) (by kernel_rfl) gI rZ none (by kernel_rfl) (fun x y h=>(DP x).trans h)
def Bf:List (Nat×Ann):=[(4,⟨[(0,.ref 2000 0),(1,.val tI),(4,.ref 4 0),(5,.val tI)],[(4,BH),(2000,ab0)],[.rowC 10250003 84 aX,.rowC 10250004 133 ax],aV _⟩),
 (100003,⟨[(0,.ref 2000 0),(1,.val tI),(4,.ref 4 0),(5,.val tI)],[(4,BH),(2000,[.val .str,.val .str,.val .str,.val tI,.val tI,.val (.slice fo),.val (.slice aF),.own 84 aX,.rowR 10250004])],[.rowC 10250004 133 ax],fun _=>0⟩),
 (100010,⟨[(0,.ref 2000 0),(1,.val tI),(4,.ref 4 0),(7,.rpR 4000 19)],[(4,BH),(2000,Xa)],[.rowC 4000 84 aX,.rowC 10250004 133 ax],fun _=>0⟩),
 (100013,⟨[(0,.ref 2000 0),(1,.val tI),(4,.ref 4 0),(7,.rpR 4000 19),(82,.val tI),(83,.val .bool)],[(4,BH),(2000,Xa)],[.rowC 4000 84 aX,.rowC 10250004 133 ax],fun _=>0⟩),
 (100016,⟨[(1,.val tI),(7,.rpR 4000 19)],[(2000,Xa)],[.rowC 4000 84 aX,.rowC 10250004 133 ax],fun _=>0⟩),
 (200004,⟨[(0,.ref 2000 0),(1,.val tI),(4,.ref 4 0),(5,.val tI)],[(4,BH),(2000,ab0)],[.rowC 10250003 84 aX,.rowC 10250004 133 ax],fun _=>0⟩),
 (300004,⟨[(41,.val .bool)],[],[],fun _=>0⟩)]
noncomputable def nr:az:=⟨[.box [.val bB,.val (.slice aF),.row 84 aX,.row 133 ax],.val tI],[],fun x=>kX x.1 x.2.1⟩
noncomputable def Ef:Cx:=⟨Tryz.prog,[(40,kr),(49,jY),(78,nW),(114,sW),(117,sX),(128,lD),(130,gI)],[(129,ZT),(100065,.own)]⟩
theorem Nr:∀ x,aQ Ef Bf none Tryz.f79 nr x=nr.m x:=by intro x;kernel_rfl
theorem PF:au Tryz.prog 79:=aq (fn:=Tryz.f79) (by kernel_rfl) rfl (by decide)
theorem PN:aE Tryz.prog 79 nr:=aB (X:=Ef) (.aaC aeQ aeP (.afU (.cons En El (.cons vD vt (.cons JT JK (.cons K7 KK (.cons K8 KL (.cons u5 uZ (.cons EL ED (.nil _)))))))))) (by kernel_rfl) nr Bf none (by kernel_rfl) (fun x y h=>(Nr x).trans h)
def PY:List (Nat×Ann):=[(3,⟨[(1,.val (.slice aF)),(2,.val tI),(7,.ref 17 0),(19,.val (.slice fo)),(20,.val tI),(21,.val tI)],[(17,R6)],[],aV _⟩),
 (9,⟨[(2,.val tI),(7,.ref 17 0),(53,.val (.slice aF)),(54,.val tI),(55,.val tI)],[(17,R6)],[],aV _⟩),
 (200003,⟨[(1,.val (.slice aF)),(2,.val tI),(7,.ref 17 0)],[(17,R6)],[],fun _=>0⟩),
 (200009,⟨[(7,.ref 17 0)],[(17,R6)],[],fun _=>0⟩)]
noncomputable def DF:az:=⟨[.val bB,.val (.slice aF),.val tI],[.box [.val bB,.val (.slice aF),.row 84 aX,.row 133 ax]],fun x=>Tx x.1 x.2.1 x.2.2.1⟩
noncomputable def Vg:Cx:=⟨Tryz.prog,[(49,jY),(67,mc),(78,nW),(79,nr)],[]⟩
theorem aaI:∀ x,aQ Vg PY none Tryz.f34 DF x=DF.m x:=by intro x;kernel_rfl
theorem acn:au Tryz.prog 34:=aq (fn:=Tryz.f34) (by kernel_rfl) rfl (by decide)
theorem acS:aE Tryz.prog 34 DF:=aB (X:=Vg) (.cons vD vt (.cons Oh NL (.cons JT JK (.cons PN PF (.nil _))))) (by kernel_rfl) DF PY none (by kernel_rfl) (fun x y h=>(aaI x).trans h)
def Bh:List (Nat×Ann):=[(3,⟨[(3,.own 34 bW),(9,.val (.slice aX)),(10,.val tI),(11,.val tI)],[],[],aV _⟩),
 (200003,⟨[(3,.own 34 bW)],[],[],fun _=>0⟩)]
noncomputable def nt:az:=⟨[.val (.ptr fB)],[.row 34 bW],fun x=>wZ x.1⟩
noncomputable def Eh:Cx:=⟨Tryz.prog,[],[]⟩
theorem Nt:∀ x,aQ Eh Bh none Tryz.f35 nt x=nt.m x:=by intro x;kernel_rfl
theorem PG:au Tryz.prog 35:=aq (fn:=Tryz.f35) (by kernel_rfl) rfl (by decide)
theorem PO:aE Tryz.prog 35 nt:=aB (X:=Eh) (.nil _) (by kernel_rfl) nt Bh none (by kernel_rfl) (fun x y h=>(Nt x).trans h)
def Ae:List (Nat×Ann):=[(3,⟨[(2,.ref 2 0),(3,.ref 3 0),(4,.ref 4 0),(5,.rowR 18),(20,.val (.slice (.int .u32))),(21,.val tI),(22,.val tI)],[(2,CT),(3,CT),(4,RZ)],[.rowC 18 192 (.int .u32)],aV _⟩),
 (7,⟨[(2,.ref 2 0),(3,.ref 3 0),(4,.ref 4 0),(5,.rowR 18),(6,.val tI),(7,.val (.int .u32)),(8,.val (.int .u64)),(20,.val (.slice (.int .u32))),(21,.val tI),(22,.val tI),(28,.val (.slice (.int .u32))),(29,.val tI),(30,.val tI)],[(2,CT),(3,CT),(4,RZ)],[.rowC 18 192 (.int .u32)],aV _⟩),
 (200003,⟨[(2,.ref 2 0),(3,.ref 3 0),(4,.ref 4 0),(5,.rowR 18)],[(2,CT),(3,CT),(4,RZ)],[.rowC 18 192 (.int .u32)],fun _=>0⟩),
 (200007,⟨[(2,.ref 2 0),(3,.ref 3 0),(4,.ref 4 0),(5,.rowR 18),(6,.val tI),(8,.val (.int .u64)),(20,.val (.slice (.int .u32))),(21,.val tI),(22,.val tI)],[(2,CT),(3,CT),(4,RZ)],[.rowC 18 192 (.int .u32)],fun _=>0⟩)]
noncomputable def me:az:=⟨[.val dL,.val dL],[.val dL],fun x=>HW x.1 x.2.1⟩
noncomputable def Db:Cx:=⟨Tryz.prog,[(137,ja)],[]⟩
theorem MA:∀ x,aQ Db Ae none Tryz.f86 me x=me.m x:=by intro x;kernel_rfl
theorem NN:au Tryz.prog 86:=aq (fn:=Tryz.f86) (by kernel_rfl) rfl (by decide)
theorem Oj:aE Tryz.prog 86 me:=aB (X:=Db) (.cons tE tv (.nil _)) (by kernel_rfl) me Ae none (by kernel_rfl) (fun x y h=>(MA x).trans h)
def Bj:List (Nat×Ann):=[]
noncomputable def nv:az:=⟨[.val dL,.val dL],[.val dL],fun x=>Ki x.1 x.2.1⟩
noncomputable def Ej:Cx:=⟨Tryz.prog,[(137,ja),(138,rS),(140,lg),(141,pK)],[]⟩
theorem Nv:∀ x,aQ Ej Bj none Tryz.f92 nv x=nv.m x:=by intro x;kernel_rfl
theorem PJ:au Tryz.prog 92:=aq (fn:=Tryz.f92) (by kernel_rfl) rfl (by decide)
theorem PS:aE Tryz.prog 92 nv:=aB (X:=Ej) (.cons tE tv (.cons UA Uj (.cons Gj FV (.cons Mj Mf (.nil _))))) (by kernel_rfl) nv Bj none (by kernel_rfl) (fun x y h=>(Nv x).trans h)
end Go.Proofs.SeatA
