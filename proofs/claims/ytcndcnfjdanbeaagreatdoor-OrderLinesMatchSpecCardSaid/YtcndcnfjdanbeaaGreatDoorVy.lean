/-
  Each function that the law reaches is as its plain model says, second part. No condition.
-/
import Derived.Test.YtcndcnfjdanbeaaGreatDoorVw
set_option linter.all false
set_option maxRecDepth 100000
namespace Go.Proofs.SeatA
open Go.Dn Go.Md Go.Proofs
def H6:List CK:=[.val .bool,.own 192 (.int .u32)]
def eE:List CK:=[.val .bool,.own 3 tI]
def H7:List CK:=[.val .bool,.rowR 24]
def nY:List CK:=[.val .bool,.val (.slice (.int .u32))]
def mB:List CK:=[.val .bool,.val (.slice tI)]
def Zd:List CK:=[.val .str,.val .str,.val .str,.val tI,.val tI,.val (.slice fm),.val (.slice aD),.map tI .hnd,.own 133 an,.own 177 bZ,.val tI]
def Ze:List CK:=[.val .str,.val .str,.val .str,.val tI,.val tI,.val (.slice fm),.val (.slice aD),.mapR 10250003,.rowR 10250004,.rowR 10250005,.val tI]
def P7:List CK:=[.val .str,.val .str,.val .str,.val tI,.val tI,.val (.slice fm),.val (.slice aD),.own 84 aU,.own 133 an]
def Zf:List CK:=[.val .str,.val .str,.val .str,.val tI,.val tI,.val (.slice fm),.val (.slice aD),.rowR 10250003,.rowR 10250004]
def U5:List CK:=[.val .str,.val .str,.val .str,.val tI,.val tI,.val (.slice fm),.val (.slice aD),.rowR 4000,.rowR 10250004]
def Xj:List CK:=[.val tI,.val .str,.val .str,.val tI,.val tI,.val tI,.val tI,.val tI,.val tI,.val tI,.val tI,.val tI,.val tI,.val tI,.val tI,.val tI,.val tI,.val tI,.val (.slice bZ)]
def Xk:List CK:=[.val tI,.val .str,.val .str,.val tI,.val tI,.val tI,.val tI,.val tI,.val tI,.val tI,.val tI,.val tI,.val tI,.val tI,.val tI,.val tI]
def AL:List CK:=[.val tI,.val tI,.val tI,.val tI,.val tI,.val .str,.val tI,.val tI,.val .str,.val tI,.val tI,.val tI,.val tI]
def jy:List CK:=[.val tI,.val tI]
def FN:List (Nat×Ann):=[]
noncomputable def rW:az:=⟨[.val tI],[.val an],fun x=>oB x.1⟩
noncomputable def KC:Cx:=⟨Tryz.prog,[(85,gM),(108,mS)],[]⟩
theorem RP:∀ x,aL KC FN none Tryz.f52 rW x=rW.m x:=by intro x;kernel_rfl
theorem Uf:av Tryz.prog 52:=aq (fn:=Tryz.f52) (by kernel_rfl) rfl (by decide)
theorem Up:aC Tryz.prog 52 rW:=ax (X:=KC) (.cons oS oP (.cons Pp Pc (.nil _))) (by kernel_rfl) rW FN none (by kernel_rfl) (fun x y h=>(RP x).trans h)
def CT:List (Nat×Ann):=[(1,⟨[(1,.ref 1 0),(2,.ref 2 0)],[(1,jy),(2,jy)],[],aZ _⟩),
 (200001,⟨[(1,.ref 1 0),(2,.ref 2 0)],[(1,jy),(2,jy)],[],fun _=>0⟩),
 (300001,⟨[(11,.val .bool)],[],[],fun _=>0⟩)]
noncomputable def kT:az:=⟨[.val an],[.val an],fun x=>tr x.1⟩
noncomputable def FW:Cx:=⟨Tryz.prog,[],[]⟩
theorem OU:∀ x,aL FW CT none Tryz.f46 kT x=kT.m x:=by intro x;kernel_rfl
theorem Gf:av Tryz.prog 46:=aq (fn:=Tryz.f46) (by kernel_rfl) rfl (by decide)
theorem Gq:aC Tryz.prog 46 kT:=ax (X:=FW) (.nil _) (by kernel_rfl) kT CT none (by kernel_rfl) (fun x y h=>(OU x).trans h)
def yh:List (Nat×Ann):=[]
noncomputable def dX:az:=⟨[.val .hnd,.arR aV],[.val b8],fun x=>fI x.1 x.2.1⟩
noncomputable def Aq:Cx:=⟨Tryz.prog,[(43,fL),(46,kT),(52,rW)],[]⟩
theorem Jg:∀ x,aL Aq yh none Tryz.f32 dX x=dX.m x:=by intro x;kernel_rfl
theorem nu:av Tryz.prog 32:=aq (fn:=Tryz.f32) (by kernel_rfl) rfl (by decide)
theorem nx:aC Tryz.prog 32 dX:=ax (X:=Aq) (.cons tV tL (.cons Gq Gf (.cons Up Uf (.nil _)))) (by kernel_rfl) dX yh none (by kernel_rfl) (fun x y h=>(Jg x).trans h)
def vr:List (Nat×Ann):=[(1,⟨[(0,.ref 2000 0),(1,.val tI),(10,.val (.slice aD)),(11,.val tI),(12,.val tI)],[(2000,Zd)],[.ar aV],aZ _⟩),
 (200001,⟨[],[(2000,Zd)],[.ar aV],fun _=>0⟩)]
noncomputable def fy:az:=⟨[.box [.val bh,.val (.slice aD),.map tI .hnd,.row 133 an,.row 177 bZ,.val tI],.val tI,.ar aV],[],fun x=>gZ x.1 x.2.1 x.2.2.1⟩
noncomputable def yu:Cx:=⟨Tryz.prog,[(32,dX),(113,gF)],[]⟩
theorem GS:∀ x,aL yu vr none Tryz.f58 fy x=fy.m x:=by intro x;kernel_rfl
theorem yz:av Tryz.prog 58:=aq (fn:=Tryz.f58) (by kernel_rfl) rfl (by decide)
theorem yC:aC Tryz.prog 58 fy:=ax (X:=yu) (.cons nx nu (.cons Hh GX (.nil _))) (by kernel_rfl) fy vr none (by kernel_rfl) (fun x y h=>(GS x).trans h)
def Kj:List (Nat×Ann):=[]
noncomputable def mh:az:=⟨[.val bh,.val (.slice aD),.val tI,.ar aV],[.box [.val bh,.val (.slice aD),.map tI .hnd,.row 133 an,.row 177 bZ,.val tI],.val tI],fun x=>xX x.1 x.2.1 x.2.2.1 x.2.2.2.1⟩
noncomputable def N2:Cx:=⟨Tryz.prog,[(55,jG),(56,iU),(57,fV),(58,fy)],[]⟩
theorem Va:∀ x,aL N2 Kj none Tryz.f30 mh x=mh.m x:=by intro x;kernel_rfl
theorem Bj:av Tryz.prog 30:=aq (fn:=Tryz.f30) (by kernel_rfl) rfl (by decide)
theorem Bn:aC Tryz.prog 30 mh:=ax (X:=N2) (.cons ER EA (.cons tU tK (.cons zC zw (.cons yC yz (.nil _))))) (by kernel_rfl) mh Kj none (by kernel_rfl) (fun x y h=>(Va x).trans h)
def FM:List (Nat×Ann):=[]
noncomputable def jf:az:=⟨[.val bh,.val (.slice aD),.val tI,.ar aV],[.val .hnd,.val tI],fun x=>qR x.1 x.2.1 x.2.2.1 x.2.2.2.1⟩
noncomputable def KB:Cx:=⟨Tryz.prog,[(55,jG),(56,iU),(57,fV),(58,fy)],[]⟩
theorem RO:∀ x,aL KB FM none Tryz.f30 jf x=jf.m x:=by intro x;kernel_rfl
theorem xo:av Tryz.prog 30:=aq (fn:=Tryz.f30) (by kernel_rfl) rfl (by decide)
theorem xw:aC Tryz.prog 30 jf:=ax (X:=KB) (.cons ER EA (.cons tU tK (.cons zC zw (.cons yC yz (.nil _))))) (by kernel_rfl) jf FM none (by kernel_rfl) (fun x y h=>(RO x).trans h)
def rD:List (Nat×Ann):=[(3,⟨[(0,.ref 2000 0),(3,.own 68 .hnd),(11,.rowR 11),(12,.val tI),(13,.val tI)],[(2000,Ze)],[.rowC 11 3 tI,.rowC 10250004 133 an,.rowC 10250005 177 bZ,.mapC 10250003 tI .hnd],aZ _⟩),
 (200003,⟨[(3,.own 68 .hnd)],[(2000,Ze)],[.rowC 10250004 133 an,.rowC 10250005 177 bZ,.mapC 10250003 tI .hnd],fun _=>0⟩)]
noncomputable def dn:az:=⟨[.box [.val bh,.val (.slice aD),.map tI .hnd,.row 133 an,.row 177 bZ,.val tI]],[.row 68 .hnd],fun x=>fq x.1⟩
noncomputable def tJ:Cx:=⟨Tryz.prog,[],[(76,Zu),(77,Zv)]⟩
theorem Dm:∀ x,aL tJ rD none Tryz.f31 dn x=dn.m x:=by intro x;kernel_rfl
theorem mD:av Tryz.prog 31:=aq (fn:=Tryz.f31) (by kernel_rfl) rfl (by decide)
theorem mI:aC Tryz.prog 31 dn:=ax (X:=tJ) (.X3 ab2 ab0 (.X3 ab3 ab1 (.nil _))) (by kernel_rfl) dn rD none (by kernel_rfl) (fun x y h=>(Dm x).trans h)
def BL:List (Nat×Ann):=[(6,⟨[(10,.own 34 b8),(24,.rowR 60688),(25,.val tI),(26,.val tI)],[],[.rowC 60688 68 .hnd,.ar aV],aZ _⟩),
 (200006,⟨[(10,.own 34 b8)],[],[.ar aV],fun _=>0⟩)]
noncomputable def mU:az:=⟨[.val bh,.val (.slice aD),.val tI],[.val (.slice b8),.val tI],fun x=>xA x.1 x.2.1 x.2.2.1⟩
noncomputable def Eg:Cx:=⟨Tryz.prog,[(30,jf),(30,mh),(31,dn),(32,dX)],[]⟩
theorem Nx:∀ x,aL Eg BL (some aV) Tryz.f7 mU x=mU.m x:=by intro x;kernel_rfl
theorem Pe:av Tryz.prog 7:=aq (fn:=Tryz.f7) (by kernel_rfl) rfl (by decide)
theorem Pr:aC Tryz.prog 7 mU:=ax (X:=Eg) (.cons xw xo (.cons Bn Bj (.cons mI mD (.cons nx nu (.nil _))))) (by kernel_rfl) mU BL (some aV) (by kernel_rfl) (fun x y h=>(Nx x).trans h)
def HO:List (Nat×Ann):=[(4,⟨[(0,.val .str),(23,.val tI),(24,.val tI)],[],[],aZ _⟩),
 (200004,⟨[],[],[],fun _=>0⟩)]
noncomputable def uC:az:=⟨[.val .str],[.val .bool],fun x=>MR x.1⟩
noncomputable def LG:Cx:=⟨Tryz.prog,[],[]⟩
theorem TZ:∀ x,aL LG HO none Tryz.f121 uC x=uC.m x:=by intro x;kernel_rfl
theorem VB:av Tryz.prog 121:=aq (fn:=Tryz.f121) (by kernel_rfl) rfl (by decide)
theorem VY:aC Tryz.prog 121 uC:=ax (X:=LG) (.nil _) (by kernel_rfl) uC HO none (by kernel_rfl) (fun x y h=>(TZ x).trans h)
def HM:List (Nat×Ann):=[]
noncomputable def mW:az:=⟨[.val .str],[.val .bool],fun x=>mg x.1⟩
noncomputable def LD:Cx:=⟨Tryz.prog,[(121,uC)],[]⟩
theorem TX:∀ x,aL LD HM none Tryz.f70 mW x=mW.m x:=by intro x;kernel_rfl
theorem EC:av Tryz.prog 70:=aq (fn:=Tryz.f70) (by kernel_rfl) rfl (by decide)
theorem ET:aC Tryz.prog 70 mW:=ax (X:=LD) (.cons VY VB (.nil _)) (by kernel_rfl) mW HM none (by kernel_rfl) (fun x y h=>(TX x).trans h)
def HP:List (Nat×Ann):=[]
noncomputable def qi:az:=⟨[.val tI,.val tI,.val tI],[.val .bool],fun x=>yF x.1 x.2.1 x.2.2.1⟩
noncomputable def LH:Cx:=⟨Tryz.prog,[],[]⟩
theorem T0:∀ x,aL LH HP none Tryz.f135 qi x=qi.m x:=by intro x;kernel_rfl
theorem Mb:av Tryz.prog 135:=aq (fn:=Tryz.f135) (by kernel_rfl) rfl (by decide)
theorem MC:aC Tryz.prog 135 qi:=ax (X:=LH) (.nil _) (by kernel_rfl) qi HP none (by kernel_rfl) (fun x y h=>(T0 x).trans h)
def Kq:List (Nat×Ann):=[]
noncomputable def wY:az:=⟨[.val tI],[.val .bool],fun x=>PE x.1⟩
noncomputable def N9:Cx:=⟨Tryz.prog,[(135,qi)],[]⟩
theorem Vh:∀ x,aL N9 Kq none Tryz.f82 wY x=wY.m x:=by intro x;kernel_rfl
theorem WK:av Tryz.prog 82:=aq (fn:=Tryz.f82) (by kernel_rfl) rfl (by decide)
theorem WW:aC Tryz.prog 82 wY:=ax (X:=N9) (.cons MC Mb (.nil _)) (by kernel_rfl) wY Kq none (by kernel_rfl) (fun x y h=>(Vh x).trans h)
def Kk:List (Nat×Ann):=[]
noncomputable def jQ:az:=⟨[.val tI],[.val .bool],fun x=>um x.1⟩
noncomputable def N3:Cx:=⟨Tryz.prog,[(82,wY)],[]⟩
theorem Vb:∀ x,aL N3 Kk none Tryz.f39 jQ x=jQ.m x:=by intro x;kernel_rfl
theorem wB:av Tryz.prog 39:=aq (fn:=Tryz.f39) (by kernel_rfl) rfl (by decide)
theorem wJ:aC Tryz.prog 39 jQ:=ax (X:=N3) (.cons WW WK (.nil _)) (by kernel_rfl) jQ Kk none (by kernel_rfl) (fun x y h=>(Vb x).trans h)
def HU:List (Nat×Ann):=[(300001,⟨[(6,.val .bool)],[],[],fun _=>0⟩)]
noncomputable def gK:az:=⟨[.val tI,.val tI,.val tI],[.val .bool],fun x=>je x.1 x.2.1 x.2.2.1⟩
noncomputable def LM:Cx:=⟨Tryz.prog,[],[]⟩
theorem T8:∀ x,aL LM HU none Tryz.f38 gK x=gK.m x:=by intro x;kernel_rfl
theorem pR:av Tryz.prog 38:=aq (fn:=Tryz.f38) (by kernel_rfl) rfl (by decide)
theorem pX:aC Tryz.prog 38 gK:=ax (X:=LM) (.nil _) (by kernel_rfl) gK HU none (by kernel_rfl) (fun x y h=>(T8 x).trans h)
def yZ:List (Nat×Ann):=[]
noncomputable def ez:az:=⟨[.val an],[.val tI],fun x=>eZ x.1⟩
noncomputable def B2:Cx:=⟨Tryz.prog,[(135,qi)],[]⟩
theorem K3:∀ x,aL B2 yZ none Tryz.f94 ez x=ez.m x:=by intro x;kernel_rfl
theorem oa:av Tryz.prog 94:=aq (fn:=Tryz.f94) (by kernel_rfl) rfl (by decide)
theorem ox:aC Tryz.prog 94 ez:=ax (X:=B2) (.cons MC Mb (.nil _)) (by kernel_rfl) ez yZ none (by kernel_rfl) (fun x y h=>(K3 x).trans h)
def Kv:List (Nat×Ann):=[]
noncomputable def sF:az:=⟨[.val tI],[.val an],fun x=>A3 x.1⟩
noncomputable def Oe:Cx:=⟨Tryz.prog,[],[]⟩
theorem Vm:∀ x,aL Oe Kv none Tryz.f122 sF x=sF.m x:=by intro x;kernel_rfl
theorem Ow:av Tryz.prog 122:=aq (fn:=Tryz.f122) (by kernel_rfl) rfl (by decide)
theorem OC:aC Tryz.prog 122 sF:=ax (X:=Oe) (.nil _) (by kernel_rfl) sF Kv none (by kernel_rfl) (fun x y h=>(Vm x).trans h)
def PY:List (Nat×Ann):=[(2,⟨[(0,.val tI),(2,.ref 2 0),(3,.ref 3 0)],[(2,eE),(3,eE)],[],aZ _⟩),
 (200002,⟨[(2,.ref 2 0),(3,.ref 3 0)],[(2,eE),(3,eE)],[],fun _=>0⟩)]
noncomputable def qY:az:=⟨[.val tI],[.val aP],fun x=>xC x.1⟩
noncomputable def U8:Cx:=⟨Tryz.prog,[],[]⟩
theorem Zj:∀ x,aL U8 PY none Tryz.f96 qY x=qY.m x:=by intro x;kernel_rfl
theorem ED:av Tryz.prog 96:=aq (fn:=Tryz.f96) (by kernel_rfl) rfl (by decide)
theorem EU:aC Tryz.prog 96 qY:=ax (X:=U8) (.nil _) (by kernel_rfl) qY PY none (by kernel_rfl) (fun x y h=>(Zj x).trans h)
def FQ:List (Nat×Ann):=[(1,⟨[(1,.ref 1 0),(2,.ref 2 0)],[(1,mB),(2,eE)],[],aZ _⟩),
 (200001,⟨[(1,.ref 1 0),(2,.ref 2 0)],[(1,mB),(2,eE)],[],fun _=>0⟩)]
noncomputable def lu:az:=⟨[.val aP],[.val aP],fun x=>lX x.1⟩
noncomputable def KF:Cx:=⟨Tryz.prog,[],[]⟩
theorem RS:∀ x,aL KF FQ none Tryz.f143 lu x=lu.m x:=by intro x;kernel_rfl
theorem CF:av Tryz.prog 143:=aq (fn:=Tryz.f143) (by kernel_rfl) rfl (by decide)
theorem CJ:aC Tryz.prog 143 lu:=ax (X:=KF) (.nil _) (by kernel_rfl) lu FQ none (by kernel_rfl) (fun x y h=>(RS x).trans h)
def FO:List (Nat×Ann):=[(3,⟨[(3,.ref 3 0),(4,.ref 4 0),(5,.ref 5 0),(27,.val (.slice tI)),(28,.val tI),(29,.val tI)],[(3,mB),(4,eE),(5,H7)],[.rowC 24 3 tI],aZ _⟩),
 (6,⟨[(3,.ref 3 0),(4,.ref 4 0),(5,.ref 5 0),(6,.val tI),(7,.val tI),(27,.val (.slice tI)),(28,.val tI),(29,.val tI),(35,.val (.slice tI)),(36,.val tI),(37,.val tI)],[(3,mB),(4,eE),(5,H7)],[.rowC 24 3 tI],aZ _⟩),
 (14,⟨[(4,.ref 4 0),(5,.ref 5 0),(86,.val tI),(87,.val tI)],[(4,eE),(5,H7)],[.rowC 24 3 tI],aZ _⟩),
 (200003,⟨[(4,.ref 4 0),(5,.ref 5 0)],[(4,eE),(5,H7)],[.rowC 24 3 tI],fun _=>0⟩),
 (200006,⟨[(3,.ref 3 0),(4,.ref 4 0),(5,.ref 5 0),(27,.val (.slice tI)),(28,.val tI),(29,.val tI)],[(3,mB),(4,eE),(5,H7)],[.rowC 24 3 tI],fun _=>0⟩),
 (200014,⟨[(4,.ref 4 0),(5,.ref 5 0)],[(4,eE),(5,H7)],[.rowC 24 3 tI],fun _=>0⟩)]
noncomputable def jg:az:=⟨[.val aP,.val aP],[.val aP],fun x=>lW x.1 x.2.1⟩
noncomputable def KD:Cx:=⟨Tryz.prog,[(143,lu)],[]⟩
theorem RQ:∀ x,aL KD FO none Tryz.f95 jg x=jg.m x:=by intro x;kernel_rfl
theorem xp:av Tryz.prog 95:=aq (fn:=Tryz.f95) (by kernel_rfl) rfl (by decide)
theorem xz:aC Tryz.prog 95 jg:=ax (X:=KD) (.cons CJ CF (.nil _)) (by kernel_rfl) jg FO none (by kernel_rfl) (fun x y h=>(RQ x).trans h)
def Km:List (Nat×Ann):=[(3,⟨[(2,.ref 2 0),(3,.ref 3 0),(5,.val tI),(6,.val tI)],[(2,eE),(3,mB)],[],aZ _⟩),
 (200003,⟨[(2,.ref 2 0),(3,.ref 3 0)],[(2,eE),(3,mB)],[],fun _=>0⟩)]
noncomputable def sC:az:=⟨[.val tI],[.val aP],fun x=>E5 x.1⟩
noncomputable def N5:Cx:=⟨Tryz.prog,[(95,jg),(96,qY)],[]⟩
theorem Vd:∀ x,aL N5 Km none Tryz.f98 sC x=sC.m x:=by intro x;kernel_rfl
theorem Ot:av Tryz.prog 98:=aq (fn:=Tryz.f98) (by kernel_rfl) rfl (by decide)
theorem Oz:aC Tryz.prog 98 sC:=ax (X:=N5) (.cons xz xp (.cons EU ED (.nil _))) (by kernel_rfl) sC Km none (by kernel_rfl) (fun x y h=>(Vd x).trans h)
def PX:List (Nat×Ann):=[]
noncomputable def A5:az:=⟨[.val an,.val tI],[.val aP],fun x=>xB x.1 x.2.1⟩
noncomputable def U7:Cx:=⟨Tryz.prog,[(95,jg),(96,qY),(98,sC)],[]⟩
theorem Zi:∀ x,aL U7 PX none Tryz.f103 A5 x=A5.m x:=by intro x;kernel_rfl
theorem Vz:av Tryz.prog 103:=aq (fn:=Tryz.f103) (by kernel_rfl) rfl (by decide)
theorem VW:aC Tryz.prog 103 A5:=ax (X:=U7) (.cons xz xp (.cons EU ED (.cons Oz Ot (.nil _)))) (by kernel_rfl) A5 PX none (by kernel_rfl) (fun x y h=>(Zi x).trans h)
def Kl:List (Nat×Ann):=[]
noncomputable def o8:az:=⟨[.val aP],[.val aP],fun x=>A0 x.1⟩
noncomputable def N4:Cx:=⟨Tryz.prog,[],[]⟩
theorem Vc:∀ x,aL N4 Kl none Tryz.f100 o8 x=o8.m x:=by intro x;kernel_rfl
theorem G6:av Tryz.prog 100:=aq (fn:=Tryz.f100) (by kernel_rfl) rfl (by decide)
theorem Hp:aC Tryz.prog 100 o8:=ax (X:=N4) (.nil _) (by kernel_rfl) o8 Kl none (by kernel_rfl) (fun x y h=>(Vc x).trans h)
def Kr:List (Nat×Ann):=[(4,⟨[(0,.val (.slice tI)),(1,.val (.slice tI)),(5,.val tI)],[],[],aZ _⟩),
 (200004,⟨[],[],[],fun _=>0⟩)]
noncomputable def sD:az:=⟨[.val (.slice tI),.val (.slice tI)],[.val tI],fun x=>A2 x.1 x.2.1⟩
noncomputable def Oa:Cx:=⟨Tryz.prog,[],[]⟩
theorem Vi:∀ x,aL Oa Kr none Tryz.f146 sD x=sD.m x:=by intro x;kernel_rfl
theorem Ou:av Tryz.prog 146:=aq (fn:=Tryz.f146) (by kernel_rfl) rfl (by decide)
theorem OA:aC Tryz.prog 146 sD:=ax (X:=Oa) (.nil _) (by kernel_rfl) sD Kr none (by kernel_rfl) (fun x y h=>(Vi x).trans h)
def Kp:List (Nat×Ann):=[]
noncomputable def wX:az:=⟨[.val (.slice tI),.val tI],[.val tI],fun x=>A1 x.1 x.2.1⟩
noncomputable def N8:Cx:=⟨Tryz.prog,[],[]⟩
theorem Vg:∀ x,aL N8 Kp none Tryz.f147 wX x=wX.m x:=by intro x;kernel_rfl
theorem WJ:av Tryz.prog 147:=aq (fn:=Tryz.f147) (by kernel_rfl) rfl (by decide)
theorem WV:aC Tryz.prog 147 wX:=ax (X:=N8) (.nil _) (by kernel_rfl) wX Kp none (by kernel_rfl) (fun x y h=>(Vg x).trans h)
def Lf:List (Nat×Ann):=[(7,⟨[(2,.ref 2 0),(3,.ref 3 0),(4,.ref 4 0),(5,.ref 5 0),(6,.val tI),(31,.val tI),(32,.val tI)],[(2,mB),(3,mB),(4,eE),(5,eE)],[],aZ _⟩),
 (19,⟨[(2,.ref 2 0),(3,.ref 3 0),(4,.ref 4 0),(9,.ref 9 0),(10,.val tI),(70,.val tI),(71,.val tI)],[(2,mB),(3,mB),(4,eE),(9,eE)],[],aZ _⟩),
 (100003,⟨[(2,.ref 2 0),(3,.ref 3 0),(4,.ref 4 0)],[(2,mB),(3,mB),(4,eE)],[],fun _=>0⟩),
 (100012,⟨[(2,.ref 2 0),(3,.ref 3 0),(4,.ref 4 0),(5,.ref 5 0),(6,.val tI),(8,.val tI),(31,.val tI),(32,.val tI)],[(2,mB),(3,mB),(4,eE),(5,eE)],[],fun _=>0⟩),
 (200007,⟨[(4,.ref 4 0),(5,.ref 5 0)],[(4,eE),(5,eE)],[],fun _=>0⟩),
 (200019,⟨[(4,.ref 4 0),(9,.ref 9 0)],[(4,eE),(9,eE)],[],fun _=>0⟩)]
noncomputable def qZ:az:=⟨[.val aP,.val aP],[.val aP],fun x=>yE x.1 x.2.1⟩
noncomputable def P8:Cx:=⟨Tryz.prog,[(143,lu),(146,sD),(147,wX)],[]⟩
theorem Wu:∀ x,aL P8 Lf none Tryz.f102 qZ x=qZ.m x:=by intro x;kernel_rfl
theorem Ju:av Tryz.prog 102:=aq (fn:=Tryz.f102) (by kernel_rfl) rfl (by decide)
theorem JO:aC Tryz.prog 102 qZ:=ax (X:=P8) (.cons CJ CF (.cons OA Ou (.cons WV WJ (.nil _)))) (by kernel_rfl) qZ Lf none (by kernel_rfl) (fun x y h=>(Wu x).trans h)
def Lg:List (Nat×Ann):=[]
noncomputable def q7:az:=⟨[.val aP],[.val tI],fun x=>DW x.1⟩
noncomputable def P9:Cx:=⟨Tryz.prog,[],[]⟩
theorem Wv:∀ x,aL P9 Lg none Tryz.f99 q7 x=q7.m x:=by intro x;kernel_rfl
theorem Jv:av Tryz.prog 99:=aq (fn:=Tryz.f99) (by kernel_rfl) rfl (by decide)
theorem JP:aC Tryz.prog 99 q7:=ax (X:=P9) (.nil _) (by kernel_rfl) q7 Lg none (by kernel_rfl) (fun x y h=>(Wv x).trans h)
def NU:List (Nat×Ann):=[]
noncomputable def yK:az:=⟨[.val aP,.val aP],[.val tI],fun x=>IV x.1 x.2.1⟩
noncomputable def S3:Cx:=⟨Tryz.prog,[(99,q7),(100,o8),(102,qZ)],[]⟩
theorem X6:∀ x,aL S3 NU none Tryz.f123 yK x=yK.m x:=by intro x;kernel_rfl
theorem Te:av Tryz.prog 123:=aq (fn:=Tryz.f123) (by kernel_rfl) rfl (by decide)
theorem Tr:aC Tryz.prog 123 yK:=ax (X:=S3) (.cons JP Jv (.cons Hp G6 (.cons JO Ju (.nil _)))) (by kernel_rfl) yK NU none (by kernel_rfl) (fun x y h=>(X6 x).trans h)
def NX:List (Nat×Ann):=[]
noncomputable def uE:az:=⟨[.val an,.val an],[.val tI],fun x=>ur x.1 x.2.1⟩
noncomputable def S6:Cx:=⟨Tryz.prog,[(103,A5),(123,yK)],[]⟩
theorem X9:∀ x,aL S6 NX none Tryz.f73 uE x=uE.m x:=by intro x;kernel_rfl
theorem Me:av Tryz.prog 73:=aq (fn:=Tryz.f73) (by kernel_rfl) rfl (by decide)
theorem ME:aC Tryz.prog 73 uE:=ax (X:=S6) (.cons VW Vz (.cons Tr Te (.nil _))) (by kernel_rfl) uE NX none (by kernel_rfl) (fun x y h=>(X9 x).trans h)
def yl:List (Nat×Ann):=[(300001,⟨[(32,.val .bool)],[],[],fun _=>0⟩)]
noncomputable def gy:az:=⟨[.val an,.val .bool],[.val tI],fun x=>mQ x.1 x.2.1⟩
noncomputable def As:Cx:=⟨Tryz.prog,[(73,uE),(94,ez),(122,sF)],[]⟩
theorem Ji:∀ x,aL As yl none Tryz.f71 gy x=gy.m x:=by intro x;kernel_rfl
theorem Aw:av Tryz.prog 71:=aq (fn:=Tryz.f71) (by kernel_rfl) rfl (by decide)
theorem Az:aC Tryz.prog 71 gy:=ax (X:=As) (.cons ME Me (.cons ox oa (.cons OC Ow (.nil _)))) (by kernel_rfl) gy yl none (by kernel_rfl) (fun x y h=>(Ji x).trans h)
def BQ:List (Nat×Ann):=[]
noncomputable def jH:az:=⟨[.val an],[.val tI],fun x=>rS x.1⟩
noncomputable def El:Cx:=⟨Tryz.prog,[(73,uE),(94,ez),(122,sF)],[]⟩
theorem NC:∀ x,aL El BQ none Tryz.f184 jH x=jH.m x:=by intro x;kernel_rfl
theorem EF:av Tryz.prog 184:=aq (fn:=Tryz.f184) (by kernel_rfl) rfl (by decide)
theorem EW:aC Tryz.prog 184 jH:=ax (X:=El) (.cons ME Me (.cons ox oa (.cons OC Ow (.nil _)))) (by kernel_rfl) jH BQ none (by kernel_rfl) (fun x y h=>(NC x).trans h)
def C2:List (Nat×Ann):=[(300004,⟨[(16,.val .bool)],[],[],fun _=>0⟩)]
noncomputable def oJ:az:=⟨[.val bh,.val tI],[.val tI],fun x=>zT x.1 x.2.1⟩
noncomputable def F8:Cx:=⟨Tryz.prog,[(38,gK),(70,mW),(71,gy),(184,jH)],[]⟩
theorem O2:∀ x,aL F8 C2 none Tryz.f131 oJ x=oJ.m x:=by intro x;kernel_rfl
theorem QG:av Tryz.prog 131:=aq (fn:=Tryz.f131) (by kernel_rfl) rfl (by decide)
theorem Q2:aC Tryz.prog 131 oJ:=ax (X:=F8) (.cons pX pR (.cons ET EC (.cons Az Aw (.cons EW EF (.nil _))))) (by kernel_rfl) oJ C2 none (by kernel_rfl) (fun x y h=>(O2 x).trans h)
def BP:List (Nat×Ann):=[(12,⟨[(1,.ref 1 0),(51,.val tI),(52,.val tI)],[(1,[.val .str,.val .str,.val .str,.val tI,.val tI,.val (.slice fm)])],[],aZ _⟩),
 (200012,⟨[],[],[],fun _=>0⟩)]
noncomputable def mY:az:=⟨[.val bh],[.val tI],fun x=>xK x.1⟩
noncomputable def Ek:Cx:=⟨Tryz.prog,[(38,gK),(39,jQ),(70,mW),(131,oJ)],[]⟩
theorem NB:∀ x,aL Ek BP none Tryz.f80 mY x=mY.m x:=by intro x;kernel_rfl
theorem Ph:av Tryz.prog 80:=aq (fn:=Tryz.f80) (by kernel_rfl) rfl (by decide)
theorem Pv:aC Tryz.prog 80 mY:=ax (X:=Ek) (.cons pX pR (.cons wJ wB (.cons ET EC (.cons Q2 QG (.nil _))))) (by kernel_rfl) mY BP none (by kernel_rfl) (fun x y h=>(NB x).trans h)
def D7:List (Nat×Ann):=[]
noncomputable def qj:az:=⟨[.val tI],[.val .bool],fun x=>BD x.1⟩
noncomputable def Ij:Cx:=⟨Tryz.prog,[(38,gK)],[]⟩
theorem Qn:∀ x,aL Ij D7 none Tryz.f132 qj x=qj.m x:=by intro x;kernel_rfl
theorem R3:av Tryz.prog 132:=aq (fn:=Tryz.f132) (by kernel_rfl) rfl (by decide)
theorem Sj:aC Tryz.prog 132 qj:=ax (X:=Ij) (.cons pX pR (.nil _)) (by kernel_rfl) qj D7 none (by kernel_rfl) (fun x y h=>(Qn x).trans h)
def HT:List (Nat×Ann):=[(100005,⟨[(2,.ref 2 0),(3,.val tI),(7,.val .bool)],[(2,[.val .bool,.val .bool,.val .bool,.val .bool,.val .bool])],[],fun _=>0⟩)]
noncomputable def qm:az:=⟨[.val tI],[.val HE],fun x=>GH x.1⟩
noncomputable def LL:Cx:=⟨Tryz.prog,[],[]⟩
theorem T7:∀ x,aL LL HT none Tryz.f66 qm x=qm.m x:=by intro x;kernel_rfl
theorem Mf:av Tryz.prog 66:=aq (fn:=Tryz.f66) (by kernel_rfl) rfl (by decide)
theorem MF:aC Tryz.prog 66 qm:=ax (X:=LL) (.nil _) (by kernel_rfl) qm HT none (by kernel_rfl) (fun x y h=>(T7 x).trans h)
def Ak:List (Nat×Ann):=[(300002,⟨[(8,.val .bool)],[],[],fun _=>0⟩),
 (300004,⟨[(20,.val .bool)],[],[],fun _=>0⟩),
 (300006,⟨[(29,.val .bool)],[],[],fun _=>0⟩),
 (300008,⟨[(38,.val .bool)],[],[],fun _=>0⟩),
 (300010,⟨[(53,.val .bool)],[],[],fun _=>0⟩),
 (300013,⟨[(114,.val .bool)],[],[],fun _=>0⟩)]
noncomputable def lN:az:=⟨[.val aD],[.val tI],fun x=>vm x.1⟩
noncomputable def Da:Cx:=⟨Tryz.prog,[(38,gK),(39,jQ),(66,qm),(70,mW),(71,gy),(184,jH)],[]⟩
theorem LW:∀ x,aL Da Ak none Tryz.f133 lN x=lN.m x:=by intro x;kernel_rfl
theorem NK:av Tryz.prog 133:=aq (fn:=Tryz.f133) (by kernel_rfl) rfl (by decide)
theorem NO:aC Tryz.prog 133 lN:=ax (X:=Da) (.cons pX pR (.cons wJ wB (.cons MF Mf (.cons ET EC (.cons Az Aw (.cons EW EF (.nil _))))))) (by kernel_rfl) lN Ak none (by kernel_rfl) (fun x y h=>(LW x).trans h)
end Go.Proofs.SeatA
set_option maxRecDepth 100000
namespace Go.Proofs.SeatA
open Go.Dn Go.Md Go.Proofs
def C3:List (Nat×Ann):=[(2,⟨[(22,.rowR 22),(23,.val tI),(24,.val tI)],[],[.rowC 22 3 tI],aZ _⟩),
 (200002,⟨[],[],[],fun _=>0⟩)]
noncomputable def oK:az:=⟨[.val aD,.val aD],[.val tI],fun x=>uv x.1 x.2.1⟩
noncomputable def F9:Cx:=⟨Tryz.prog,[],[]⟩
theorem O3:∀ x,aL F9 C3 none Tryz.f134 oK x=oK.m x:=by intro x;kernel_rfl
theorem QH:av Tryz.prog 134:=aq (fn:=Tryz.f134) (by kernel_rfl) rfl (by decide)
theorem Q3:aC Tryz.prog 134 oK:=ax (X:=F9) (.nil _) (by kernel_rfl) oK C3 none (by kernel_rfl) (fun x y h=>(O3 x).trans h)
def HS:List (Nat×Ann):=[(3,⟨[(1,.val tI),(5,.val tI),(8,.val (.slice aD)),(9,.val tI),(10,.val tI)],[],[],aZ _⟩),
 (200003,⟨[(5,.val tI)],[],[],fun _=>0⟩)]
noncomputable def uF:az:=⟨[.val (.slice aD),.val tI],[.val tI],fun x=>GA x.1 x.2.1⟩
noncomputable def LK:Cx:=⟨Tryz.prog,[],[]⟩
theorem T6:∀ x,aL LK HS none Tryz.f64 uF x=uF.m x:=by intro x;kernel_rfl
theorem VD:av Tryz.prog 64:=aq (fn:=Tryz.f64) (by kernel_rfl) rfl (by decide)
theorem V0:aC Tryz.prog 64 uF:=ax (X:=LK) (.nil _) (by kernel_rfl) uF HS none (by kernel_rfl) (fun x y h=>(T6 x).trans h)
def BO:List (Nat×Ann):=[(4,⟨[(0,.val (.slice aD)),(9,.val (.slice aD)),(10,.val tI),(11,.val tI)],[],[],aZ _⟩),
 (200004,⟨[],[],[],fun _=>0⟩),
 (300008,⟨[(21,.val .bool)],[],[],fun _=>0⟩),
 (300019,⟨[(70,.val .bool)],[],[],fun _=>0⟩)]
noncomputable def mX:az:=⟨[.val (.slice aD)],[.val tI],fun x=>xJ x.1⟩
noncomputable def Ej:Cx:=⟨Tryz.prog,[(38,gK),(39,jQ),(64,uF),(132,qj),(133,lN),(134,oK)],[]⟩
theorem NA:∀ x,aL Ej BO none Tryz.f81 mX x=mX.m x:=by intro x;kernel_rfl
theorem Pg:av Tryz.prog 81:=aq (fn:=Tryz.f81) (by kernel_rfl) rfl (by decide)
theorem Pu:aC Tryz.prog 81 mX:=ax (X:=Ej) (.cons pX pR (.cons wJ wB (.cons V0 VD (.cons Sj R3 (.cons NO NK (.cons Q3 QH (.nil _))))))) (by kernel_rfl) mX BO none (by kernel_rfl) (fun x y h=>(NA x).trans h)
def NW:List (Nat×Ann):=[]
noncomputable def yL:az:=⟨[.val bh,.val (.slice aD)],[.val tI],fun x=>MS x.1 x.2.1⟩
noncomputable def S5:Cx:=⟨Tryz.prog,[(80,mY),(81,mX)],[]⟩
theorem X8:∀ x,aL S5 NW none Tryz.f37 yL x=yL.m x:=by intro x;kernel_rfl
theorem Tf:av Tryz.prog 37:=aq (fn:=Tryz.f37) (by kernel_rfl) rfl (by decide)
theorem Tt:aC Tryz.prog 37 yL:=ax (X:=S5) (.cons Pv Ph (.cons Pu Pg (.nil _))) (by kernel_rfl) yL NW none (by kernel_rfl) (fun x y h=>(X8 x).trans h)
def HR:List (Nat×Ann):=[]
noncomputable def mZ:az:=⟨[.val bh,.val (.slice aD),.val tI],[.val tI],fun x=>yG x.1 x.2.1 x.2.2.1⟩
noncomputable def LJ:Cx:=⟨Tryz.prog,[(37,yL),(39,jQ)],[]⟩
theorem T4:∀ x,aL LJ HR none Tryz.f33 mZ x=mZ.m x:=by intro x;kernel_rfl
theorem EE:av Tryz.prog 33:=aq (fn:=Tryz.f33) (by kernel_rfl) rfl (by decide)
theorem EV:aC Tryz.prog 33 mZ:=ax (X:=LJ) (.cons Tt Tf (.cons wJ wB (.nil _))) (by kernel_rfl) mZ HR none (by kernel_rfl) (fun x y h=>(T4 x).trans h)
def HN:List (Nat×Ann):=[(1,⟨[(1,.ref 1 0),(2,.ref 2 0)],[(1,jy),(2,jy)],[],aZ _⟩),
 (200001,⟨[(1,.ref 1 0),(2,.ref 2 0)],[(1,jy),(2,jy)],[],fun _=>0⟩)]
noncomputable def iW:az:=⟨[.val an],[.val an],fun x=>eN x.1⟩
noncomputable def LF:Cx:=⟨Tryz.prog,[],[]⟩
theorem TY:∀ x,aL LF HN none Tryz.f49 iW x=iW.m x:=by intro x;kernel_rfl
theorem tM:av Tryz.prog 49:=aq (fn:=Tryz.f49) (by kernel_rfl) rfl (by decide)
theorem tW:aC Tryz.prog 49 iW:=ax (X:=LF) (.nil _) (by kernel_rfl) iW HN none (by kernel_rfl) (fun x y h=>(TY x).trans h)
def Kt:List (Nat×Ann):=[(3,⟨[(3,.val tI),(8,.val tI),(9,.val tI)],[],[],aZ _⟩),
 (200003,⟨[(3,.val tI)],[],[],fun _=>0⟩)]
noncomputable def o9:az:=⟨[.val an],[.val tI],fun x=>oX x.1⟩
noncomputable def Oc:Cx:=⟨Tryz.prog,[],[]⟩
theorem Vk:∀ x,aL Oc Kt none Tryz.f115 o9 x=o9.m x:=by intro x;kernel_rfl
theorem G7:av Tryz.prog 115:=aq (fn:=Tryz.f115) (by kernel_rfl) rfl (by decide)
theorem Hq:aC Tryz.prog 115 o9:=ax (X:=Oc) (.nil _) (by kernel_rfl) o9 Kt none (by kernel_rfl) (fun x y h=>(Vk x).trans h)
def Ll:List (Nat×Ann):=[]
noncomputable def q9:az:=⟨[.val an,.val an],[.val an],fun x=>kR x.1 x.2.1⟩
noncomputable def Qd:Cx:=⟨Tryz.prog,[(49,iW),(115,o9)],[]⟩
theorem Wz:∀ x,aL Qd Ll none Tryz.f117 q9 x=q9.m x:=by intro x;kernel_rfl
theorem Jx:av Tryz.prog 117:=aq (fn:=Tryz.f117) (by kernel_rfl) rfl (by decide)
theorem JR:aC Tryz.prog 117 q9:=ax (X:=Qd) (.cons tW tM (.cons Hq G7 (.nil _))) (by kernel_rfl) q9 Ll none (by kernel_rfl) (fun x y h=>(Wz x).trans h)
def Ku:List (Nat×Ann):=[]
noncomputable def sE:az:=⟨[.val an,.val an],[.val an],fun x=>Fb x.1 x.2.1⟩
noncomputable def Od:Cx:=⟨Tryz.prog,[(117,q9)],[]⟩
theorem Vl:∀ x,aL Od Ku none Tryz.f74 sE x=sE.m x:=by intro x;kernel_rfl
theorem Ov:av Tryz.prog 74:=aq (fn:=Tryz.f74) (by kernel_rfl) rfl (by decide)
theorem OB:aC Tryz.prog 74 sE:=ax (X:=Od) (.cons JR Jx (.nil _)) (by kernel_rfl) sE Ku none (by kernel_rfl) (fun x y h=>(Vl x).trans h)
def Lj:List (Nat×Ann):=[]
noncomputable def q8:az:=⟨[.val b8],[.val an],fun x=>yH x.1⟩
noncomputable def Qc:Cx:=⟨Tryz.prog,[(74,sE)],[]⟩
theorem Wy:∀ x,aL Qc Lj none Tryz.f114 q8 x=q8.m x:=by intro x;kernel_rfl
theorem Jw:av Tryz.prog 114:=aq (fn:=Tryz.f114) (by kernel_rfl) rfl (by decide)
theorem JQ:aC Tryz.prog 114 q8:=ax (X:=Qc) (.cons OB Ov (.nil _)) (by kernel_rfl) q8 Lj none (by kernel_rfl) (fun x y h=>(Wy x).trans h)
def D8:List (Nat×Ann):=[]
noncomputable def mz:az:=⟨[.val b8],[.val b8],fun x=>oY x.1⟩
noncomputable def Ik:Cx:=⟨Tryz.prog,[(74,sE),(114,q8)],[]⟩
theorem Qo:∀ x,aL Ik D8 none Tryz.f78 mz x=mz.m x:=by intro x;kernel_rfl
theorem ID:av Tryz.prog 78:=aq (fn:=Tryz.f78) (by kernel_rfl) rfl (by decide)
theorem IM:aC Tryz.prog 78 mz:=ax (X:=Ik) (.cons OB Ov (.cons JQ Jw (.nil _))) (by kernel_rfl) mz D8 none (by kernel_rfl) (fun x y h=>(Qo x).trans h)
def Ai:List (Nat×Ann):=[(2,⟨[(1,.val tI),(10,.val (.slice aU)),(11,.val tI),(12,.val tI)],[],[],aZ _⟩),
 (200002,⟨[],[],[],fun _=>0⟩)]
noncomputable def gj:az:=⟨[.val (.ptr eM),.val tI],[.val tI],fun x=>mq x.1 x.2.1⟩
noncomputable def C8:Cx:=⟨Tryz.prog,[],[]⟩
theorem LU:∀ x,aL C8 Ai none Tryz.f40 gj x=gj.m x:=by intro x;kernel_rfl
theorem vG:av Tryz.prog 40:=aq (fn:=Tryz.f40) (by kernel_rfl) rfl (by decide)
theorem vK:aC Tryz.prog 40 gj:=ax (X:=C8) (.nil _) (by kernel_rfl) gj Ai none (by kernel_rfl) (fun x y h=>(LU x).trans h)
def C1:List (Nat×Ann):=[]
noncomputable def oI:az:=⟨[.val (.ptr eM),.val b8],[.val tI],fun x=>zS x.1 x.2.1⟩
noncomputable def F7:Cx:=⟨Tryz.prog,[(115,o9)],[]⟩
theorem O1:∀ x,aL F7 C1 none Tryz.f116 oI x=oI.m x:=by intro x;kernel_rfl
theorem QF:av Tryz.prog 116:=aq (fn:=Tryz.f116) (by kernel_rfl) rfl (by decide)
theorem Q1:aC Tryz.prog 116 oI:=ax (X:=F7) (.cons Hq G7 (.nil _)) (by kernel_rfl) oI C1 none (by kernel_rfl) (fun x y h=>(O1 x).trans h)
def za:List (Nat×Ann):=[(100017,⟨[(0,.val (.ptr eM)),(5,.ref 5 0),(7,.ref 7 0),(8,.ref 8 0),(64,.val tI),(65,.val .bool)],[(5,AL),(7,Xj),(8,Xk)],[],fun _=>0⟩),
 (100022,⟨[(0,.val (.ptr eM)),(5,.ref 5 0),(7,.ref 7 0),(8,.ref 8 0),(64,.val tI),(72,.val .bool)],[(5,AL),(7,Xj),(8,Xk)],[],fun _=>0⟩),
 (300007,⟨[(37,.val .bool)],[],[],fun _=>0⟩),
 (300009,⟨[(51,.val .bool)],[],[],fun _=>0⟩),
 (300025,⟨[(121,.val .bool)],[],[],fun _=>0⟩)]
noncomputable def kr:az:=⟨[.val (.ptr eM),.val tI],[.val tI],fun x=>s5 x.1 x.2.1⟩
noncomputable def B3:Cx:=⟨Tryz.prog,[(40,gj),(66,qm),(73,uE),(114,q8),(115,o9),(116,oI),(117,q9)],[]⟩
theorem K4:∀ x,aL B3 za none Tryz.f67 kr x=kr.m x:=by intro x;kernel_rfl
theorem Mc:av Tryz.prog 67:=aq (fn:=Tryz.f67) (by kernel_rfl) rfl (by decide)
theorem MD:aC Tryz.prog 67 kr:=ax (X:=B3) (.cons vK vG (.cons MF Mf (.cons ME Me (.cons JQ Jw (.cons Hq G7 (.cons Q1 QF (.cons JR Jx (.nil _)))))))) (by kernel_rfl) kr za none (by kernel_rfl) (fun x y h=>(K4 x).trans h)
noncomputable def zj:Cx:=⟨Tryz.prog,[(49,iW)],[]⟩
noncomputable def vW:Code:=(Tryz.f129.body).getD .skip
theorem Is:∀ (e:TypeId) (vs:List Value) (l:(List ah)) (ql:(List ak)) (i:Nat),den zj [] vW (List CV×TypeId×(List ak)) (Jo Tryz.f129.ntmps 6 9 e aD aU vs l ql i) (Zm aU)=jv l ql i (fun q=>some (lf 6 9 aD l vs,e,q)):=by intro e vs l ql i;kernel_rfl
def Xv:AF:= .elt 6 9 aD aU gf
theorem abn:av Tryz.prog 129:=aq (fn:=Tryz.f129) (by kernel_rfl) rfl (by decide)
theorem abo:M5 Tryz.prog 129 Xv:=abZ (X:=zj) (.cons tW tM (.nil _)) (by kernel_rfl) (fn:=Tryz.f129) (c:=vW) 6 9 aD aU gf [] (by kernel_rfl) (by kernel_rfl) (by kernel_rfl) (by decide) (fun e vs l ql i=>(Is e vs l ql i).trans (HB l ql i _))
def qy:List (Nat×Ann):=[]
noncomputable def fh:az:=⟨[.val (.slice bZ)],[.row 177 bZ],fun x=>gD x.1⟩
noncomputable def sU:Cx:=⟨Tryz.prog,[],[]⟩
theorem CC:∀ x,aL sU qy none Tryz.f130 fh x=fh.m x:=by intro x;kernel_rfl
theorem Dt:av Tryz.prog 130:=aq (fn:=Tryz.f130) (by kernel_rfl) rfl (by decide)
theorem Dz:aC Tryz.prog 130 fh:=ax (X:=sU) (.nil _) (by kernel_rfl) fh qy none (by kernel_rfl) (fun x y h=>(CC x).trans h)
def Ah:List (Nat×Ann):=[(4,⟨[(0,.ref 2000 0),(1,.val tI),(4,.ref 4 0),(5,.val tI)],[(4,AL),(2000,Zf)],[.rowC 10250003 84 aU,.rowC 10250004 133 an],aZ _⟩),
 (100003,⟨[(0,.ref 2000 0),(1,.val tI),(4,.ref 4 0),(5,.val tI)],[(4,AL),(2000,[.val .str,.val .str,.val .str,.val tI,.val tI,.val (.slice fm),.val (.slice aD),.own 84 aU,.rowR 10250004])],[.rowC 10250004 133 an],fun _=>0⟩),
 (100010,⟨[(0,.ref 2000 0),(1,.val tI),(4,.ref 4 0),(7,.rpR 4000 19)],[(4,AL),(2000,U5)],[.rowC 4000 84 aU,.rowC 10250004 133 an],fun _=>0⟩),
 (100013,⟨[(0,.ref 2000 0),(1,.val tI),(4,.ref 4 0),(7,.rpR 4000 19),(82,.val tI),(83,.val .bool)],[(4,AL),(2000,U5)],[.rowC 4000 84 aU,.rowC 10250004 133 an],fun _=>0⟩),
 (100016,⟨[(1,.val tI),(7,.rpR 4000 19)],[(2000,U5)],[.rowC 4000 84 aU,.rowC 10250004 133 an],fun _=>0⟩),
 (200004,⟨[(0,.ref 2000 0),(1,.val tI),(4,.ref 4 0),(5,.val tI)],[(4,AL),(2000,Zf)],[.rowC 10250003 84 aU,.rowC 10250004 133 an],fun _=>0⟩),
 (300004,⟨[(41,.val .bool)],[],[],fun _=>0⟩)]
noncomputable def lM:az:=⟨[.box [.val bh,.val (.slice aD),.row 84 aU,.row 133 an],.val tI],[],fun x=>jD x.1 x.2.1⟩
noncomputable def C7:Cx:=⟨Tryz.prog,[(40,gj),(49,iW),(78,mz),(114,q8),(117,q9),(128,jJ),(130,fh)],[(129,Xv),(100065,.own)]⟩
theorem LS:∀ x,aL C7 Ah none Tryz.f79 lM x=lM.m x:=by intro x;kernel_rfl
theorem NJ:av Tryz.prog 79:=aq (fn:=Tryz.f79) (by kernel_rfl) rfl (by decide)
theorem NN:aC Tryz.prog 79 lM:=ax (X:=C7) (.X3 abo abn (.acv (.cons vK vG (.cons tW tM (.cons IM ID (.cons JQ Jw (.cons JR Jx (.cons th tg (.cons Dz Dt (.nil _)))))))))) (by kernel_rfl) lM Ah none (by kernel_rfl) (fun x y h=>(LS x).trans h)
def NY:List (Nat×Ann):=[(3,⟨[(1,.val (.slice aD)),(2,.val tI),(7,.ref 17 0),(19,.val (.slice fm)),(20,.val tI),(21,.val tI)],[(17,P7)],[],aZ _⟩),
 (9,⟨[(2,.val tI),(7,.ref 17 0),(53,.val (.slice aD)),(54,.val tI),(55,.val tI)],[(17,P7)],[],aZ _⟩),
 (200003,⟨[(1,.val (.slice aD)),(2,.val tI),(7,.ref 17 0)],[(17,P7)],[],fun _=>0⟩),
 (200009,⟨[(7,.ref 17 0)],[(17,P7)],[],fun _=>0⟩)]
noncomputable def qE:az:=⟨[.val bh,.val (.slice aD),.val tI],[.box [.val bh,.val (.slice aD),.row 84 aU,.row 133 an]],fun x=>Fc x.1 x.2.1 x.2.2.1⟩
noncomputable def S7:Cx:=⟨Tryz.prog,[(49,iW),(67,kr),(78,mz),(79,lM)],[]⟩
theorem Ya:∀ x,aL S7 NY none Tryz.f34 qE x=qE.m x:=by intro x;kernel_rfl
theorem Gk:av Tryz.prog 34:=aq (fn:=Tryz.f34) (by kernel_rfl) rfl (by decide)
theorem Gt:aC Tryz.prog 34 qE:=ax (X:=S7) (.cons tW tM (.cons MD Mc (.cons IM ID (.cons NN NJ (.nil _))))) (by kernel_rfl) qE NY none (by kernel_rfl) (fun x y h=>(Ya x).trans h)
def Aj:List (Nat×Ann):=[(3,⟨[(3,.own 34 b8),(9,.val (.slice aU)),(10,.val tI),(11,.val tI)],[],[],aZ _⟩),
 (200003,⟨[(3,.own 34 b8)],[],[],fun _=>0⟩)]
noncomputable def gm:az:=⟨[.val (.ptr eM)],[.row 34 b8],fun x=>mu x.1⟩
noncomputable def C9:Cx:=⟨Tryz.prog,[],[]⟩
theorem LV:∀ x,aL C9 Aj none Tryz.f35 gm x=gm.m x:=by intro x;kernel_rfl
theorem vH:av Tryz.prog 35:=aq (fn:=Tryz.f35) (by kernel_rfl) rfl (by decide)
theorem vL:aC Tryz.prog 35 gm:=ax (X:=C9) (.nil _) (by kernel_rfl) gm Aj none (by kernel_rfl) (fun x y h=>(LV x).trans h)
def FR:List (Nat×Ann):=[]
noncomputable def rX:az:=⟨[.val bh,.val (.slice aD),.val tI],[.row 34 b8,.val tI],fun x=>DI x.1 x.2.1 x.2.2.1⟩
noncomputable def KG:Cx:=⟨Tryz.prog,[(33,mZ),(34,qE),(35,gm)],[]⟩
theorem RT:∀ x,aL KG FR none Tryz.f8 rX x=rX.m x:=by intro x;kernel_rfl
theorem Ug:av Tryz.prog 8:=aq (fn:=Tryz.f8) (by kernel_rfl) rfl (by decide)
theorem Uq:aC Tryz.prog 8 rX:=ax (X:=KG) (.cons EV EE (.cons Gt Gk (.cons vL vH (.nil _)))) (by kernel_rfl) rX FR none (by kernel_rfl) (fun x y h=>(RT x).trans h)
def qz:List (Nat×Ann):=[(4,⟨[(0,.val (.slice b8)),(1,.val (.slice b8)),(12,.val tI),(13,.val tI)],[],[],aZ _⟩),
 (200004,⟨[],[],[],fun _=>0⟩)]
noncomputable def fk:az:=⟨[.val (.slice b8),.val (.slice b8)],[.val .bool],fun x=>jP x.1 x.2.1⟩
noncomputable def sV:Cx:=⟨Tryz.prog,[],[]⟩
theorem CD:∀ x,aL sV qz none Tryz.f9 fk x=fk.m x:=by intro x;kernel_rfl
theorem Du:av Tryz.prog 9:=aq (fn:=Tryz.f9) (by kernel_rfl) rfl (by decide)
theorem DA:aC Tryz.prog 9 fk:=ax (X:=sV) (.nil _) (by kernel_rfl) fk qz none (by kernel_rfl) (fun x y h=>(CD x).trans h)
def CY:List (Nat×Ann):=[]
noncomputable def oH:az:=⟨[.val bh,.val (.slice aD),.val tI,.val tI],[.val b8,.val .bool,.val tI],fun x=>iP x.1 x.2.1 x.2.2.1 x.2.2.2.1⟩
noncomputable def F0:Cx:=⟨Tryz.prog,[(30,jf),(30,mh),(32,dX),(36,ep)],[]⟩
theorem OY:∀ x,aL F0 CY (some aV) Tryz.f10 oH x=oH.m x:=by intro x;kernel_rfl
theorem QE:av Tryz.prog 10:=aq (fn:=Tryz.f10) (by kernel_rfl) rfl (by decide)
theorem Q0:aC Tryz.prog 10 oH:=ax (X:=F0) (.cons xw xo (.cons Bn Bj (.cons nx nu (.cons jB jz (.nil _))))) (by kernel_rfl) oH CY (some aV) (by kernel_rfl) (fun x y h=>(OY x).trans h)
def HQ:List (Nat×Ann):=[]
noncomputable def uD:az:=⟨[.val bh,.val (.slice aD),.val tI,.val tI],[.val b8,.val .bool,.val tI],fun x=>Gz x.1 x.2.1 x.2.2.1 x.2.2.2.1⟩
noncomputable def LI:Cx:=⟨Tryz.prog,[(34,qE),(37,yL),(38,gK),(39,jQ),(40,gj)],[]⟩
theorem T3:∀ x,aL LI HQ none Tryz.f11 uD x=uD.m x:=by intro x;kernel_rfl
theorem VC:av Tryz.prog 11:=aq (fn:=Tryz.f11) (by kernel_rfl) rfl (by decide)
theorem VZ:aC Tryz.prog 11 uD:=ax (X:=LI) (.cons Gt Gk (.cons Tt Tf (.cons pX pR (.cons wJ wB (.cons vK vG (.nil _)))))) (by kernel_rfl) uD HQ none (by kernel_rfl) (fun x y h=>(T3 x).trans h)
def CX:List (Nat×Ann):=[]
noncomputable def oG:az:=⟨[.val .hnd,.arR aV],[.val .bool],fun x=>EZ x.1 x.2.1⟩
noncomputable def FZ:Cx:=⟨Tryz.prog,[(43,fL)],[]⟩
theorem OX:∀ x,aL FZ CX none Tryz.f42 oG x=oG.m x:=by intro x;kernel_rfl
theorem QD:av Tryz.prog 42:=aq (fn:=Tryz.f42) (by kernel_rfl) rfl (by decide)
theorem QZ:aC Tryz.prog 42 oG:=ax (X:=FZ) (.cons tV tL (.nil _)) (by kernel_rfl) oG CX none (by kernel_rfl) (fun x y h=>(OX x).trans h)
def lZ:List (Nat×Ann):=[(2,⟨[(0,.val (.slice .hnd)),(1,.val (.clo 42 .unit)),(7,.val tI),(8,.val tI)],[],[.arF aV],aZ _⟩),
 (200002,⟨[],[],[.arF aV],fun _=>0⟩)]
noncomputable def dF:az:=⟨[.val (.slice .hnd),.val (.clo 42 .unit),.arR aV],[.val tI],fun x=>jF x.1 x.2.1 x.2.2.1⟩
noncomputable def nG:Cx:=⟨Tryz.prog,[(42,oG)],[]⟩
theorem xT:∀ x,aL nG lZ none Tryz.f83 dF x=dF.m x:=by intro x;kernel_rfl
theorem yM:av Tryz.prog 83:=aq (fn:=Tryz.f83) (by kernel_rfl) rfl (by decide)
theorem yN:aC Tryz.prog 83 dF:=ax (X:=nG) (.cons QZ QD (.nil _)) (by kernel_rfl) dF lZ none (by kernel_rfl) (fun x y h=>(xT x).trans h)
def jS:List (Nat×Ann):=[]
noncomputable def cT:az:=⟨[.val (.slice .hnd),.val (.clo 42 .unit),.arR aV],[.val .bool],fun x=>iE x.1 x.2.1 x.2.2.1⟩
noncomputable def lD:Cx:=⟨Tryz.prog,[(83,dF)],[]⟩
theorem uW:∀ x,aL lD jS none Tryz.f41 cT x=cT.m x:=by intro x;kernel_rfl
theorem vI:av Tryz.prog 41:=aq (fn:=Tryz.f41) (by kernel_rfl) rfl (by decide)
theorem vM:aC Tryz.prog 41 cT:=ax (X:=lD) (.cons yN yM (.nil _)) (by kernel_rfl) cT jS none (by kernel_rfl) (fun x y h=>(uW x).trans h)
def FK:List (Nat×Ann):=[]
noncomputable def rU:az:=⟨[.val bh,.val (.slice aD),.val tI],[.val .bool,.val tI],fun x=>DB x.1 x.2.1 x.2.2.1⟩
noncomputable def Kz:Cx:=⟨Tryz.prog,[(30,jf),(30,mh),(31,dn),(41,cT)],[]⟩
theorem RL:∀ x,aL Kz FK (some aV) Tryz.f12 rU x=rU.m x:=by intro x;kernel_rfl
theorem Ud:av Tryz.prog 12:=aq (fn:=Tryz.f12) (by kernel_rfl) rfl (by decide)
theorem Un:aC Tryz.prog 12 rU:=ax (X:=Kz) (.cons xw xo (.cons Bn Bj (.cons mI mD (.cons vM vI (.nil _))))) (by kernel_rfl) rU FK (some aV) (by kernel_rfl) (fun x y h=>(RL x).trans h)
def Li:List (Nat×Ann):=[(5,⟨[(22,.rowR 56592),(23,.val tI),(24,.val tI)],[],[.rowC 56592 34 b8],aZ _⟩),
 (200005,⟨[],[],[],fun _=>0⟩)]
noncomputable def z8:az:=⟨[.val bh,.val (.slice aD),.val tI],[.val .bool,.val tI],fun x=>Np x.1 x.2.1 x.2.2.1⟩
noncomputable def Qb:Cx:=⟨Tryz.prog,[(33,mZ),(34,qE),(35,gm)],[]⟩
theorem Wx:∀ x,aL Qb Li none Tryz.f13 z8 x=z8.m x:=by intro x;kernel_rfl
theorem Yh:av Tryz.prog 13:=aq (fn:=Tryz.f13) (by kernel_rfl) rfl (by decide)
theorem Yw:aC Tryz.prog 13 z8:=ax (X:=Qb) (.cons EV EE (.cons Gt Gk (.cons vL vH (.nil _)))) (by kernel_rfl) z8 Li none (by kernel_rfl) (fun x y h=>(Wx x).trans h)
def sQ:List (Nat×Ann):=[(2,⟨[(6,.val (.slice an)),(7,.val tI),(8,.val tI)],[],[],aZ _⟩),
 (200002,⟨[],[],[],fun _=>0⟩)]
noncomputable def eD:az:=⟨[.val (.slice an)],[.val tI],fun x=>iI x.1⟩
noncomputable def vu:Cx:=⟨Tryz.prog,[(136,dR)],[]⟩
theorem Er:∀ x,aL vu sQ none Tryz.f84 eD x=eD.m x:=by intro x;kernel_rfl
theorem vw:av Tryz.prog 84:=aq (fn:=Tryz.f84) (by kernel_rfl) rfl (by decide)
theorem vz:aC Tryz.prog 84 eD:=ax (X:=vu) (.cons oQ oO (.nil _)) (by kernel_rfl) eD sQ none (by kernel_rfl) (fun x y h=>(Er x).trans h)
def ze:List (Nat×Ann):=[(3,⟨[(2,.ref 2 0),(3,.ref 3 0),(4,.ref 4 0),(5,.rowR 18),(20,.val (.slice (.int .u32))),(21,.val tI),(22,.val tI)],[(2,nY),(3,nY),(4,H6)],[.rowC 18 192 (.int .u32)],aZ _⟩),
 (7,⟨[(2,.ref 2 0),(3,.ref 3 0),(4,.ref 4 0),(5,.rowR 18),(6,.val tI),(7,.val (.int .u32)),(8,.val (.int .u64)),(20,.val (.slice (.int .u32))),(21,.val tI),(22,.val tI),(28,.val (.slice (.int .u32))),(29,.val tI),(30,.val tI)],[(2,nY),(3,nY),(4,H6)],[.rowC 18 192 (.int .u32)],aZ _⟩),
 (200003,⟨[(2,.ref 2 0),(3,.ref 3 0),(4,.ref 4 0),(5,.rowR 18)],[(2,nY),(3,nY),(4,H6)],[.rowC 18 192 (.int .u32)],fun _=>0⟩),
 (200007,⟨[(2,.ref 2 0),(3,.ref 3 0),(4,.ref 4 0),(5,.rowR 18),(6,.val tI),(8,.val (.int .u64)),(20,.val (.slice (.int .u32))),(21,.val tI),(22,.val tI)],[(2,nY),(3,nY),(4,H6)],[.rowC 18 192 (.int .u32)],fun _=>0⟩)]
noncomputable def eA:az:=⟨[.val cz,.val cz],[.val cz],fun x=>iZ x.1 x.2.1⟩
noncomputable def B5:Cx:=⟨Tryz.prog,[(137,gN)],[]⟩
theorem K6:∀ x,aL B5 ze none Tryz.f86 eA x=eA.m x:=by intro x;kernel_rfl
theorem oc:av Tryz.prog 86:=aq (fn:=Tryz.f86) (by kernel_rfl) rfl (by decide)
theorem oy:aC Tryz.prog 86 eA:=ax (X:=B5) (.cons rJ rG (.nil _)) (by kernel_rfl) eA ze none (by kernel_rfl) (fun x y h=>(K6 x).trans h)
def Ea:List (Nat×Ann):=[(3,⟨[(2,.ref 2 0),(3,.ref 3 0),(5,.val tI),(6,.val tI)],[(2,H6),(3,nY)],[],aZ _⟩),
 (200003,⟨[(2,.ref 2 0),(3,.ref 3 0)],[(2,H6),(3,nY)],[],fun _=>0⟩)]
noncomputable def mA:az:=⟨[.val tI],[.val cz],fun x=>w6 x.1⟩
noncomputable def Im:Cx:=⟨Tryz.prog,[(85,gM),(86,eA)],[]⟩
theorem Qq:∀ x,aL Im Ea none Tryz.f88 mA x=mA.m x:=by intro x;kernel_rfl
theorem IE:av Tryz.prog 88:=aq (fn:=Tryz.f88) (by kernel_rfl) rfl (by decide)
theorem IN:aC Tryz.prog 88 mA:=ax (X:=Im) (.cons oS oP (.cons oy oc (.nil _))) (by kernel_rfl) mA Ea none (by kernel_rfl) (fun x y h=>(Qq x).trans h)
def CU:List (Nat×Ann):=[(100010,⟨[(4,.ref 4 0),(7,.ref 7 0),(9,.ref 9 0)],[(4,jy),(7,nY),(9,nY)],[],fun _=>0⟩)]
noncomputable def oF:az:=⟨[.val an,.val an],[.val an,.val tI],fun x=>yR x.1 x.2.1⟩
noncomputable def FX:Cx:=⟨Tryz.prog,[(84,eD),(85,gM),(86,eA),(87,kX),(88,mA),(89,gp),(90,fM),(91,ij)],[]⟩
theorem OV:∀ x,aL FX CU none Tryz.f44 oF x=oF.m x:=by intro x;kernel_rfl
theorem QC:av Tryz.prog 44:=aq (fn:=Tryz.f44) (by kernel_rfl) rfl (by decide)
theorem QY:aC Tryz.prog 44 oF:=ax (X:=FX) (.cons vz vw (.cons oS oP (.cons oy oc (.cons Gu Gl (.cons IN IE (.cons vN vJ (.cons tX tN (.cons u9 uY (.nil _))))))))) (by kernel_rfl) oF CU none (by kernel_rfl) (fun x y h=>(OV x).trans h)
def BK:List (Nat×Ann):=[]
noncomputable def mT:az:=⟨[.val an,.val tI],[.val cz],fun x=>xd x.1 x.2.1⟩
noncomputable def Ef:Cx:=⟨Tryz.prog,[(85,gM),(86,eA),(88,mA)],[]⟩
theorem Nw:∀ x,aL Ef BK none Tryz.f93 mT x=mT.m x:=by intro x;kernel_rfl
theorem Pd:av Tryz.prog 93:=aq (fn:=Tryz.f93) (by kernel_rfl) rfl (by decide)
theorem Pq:aC Tryz.prog 93 mT:=ax (X:=Ef) (.cons oS oP (.cons oy oc (.cons IN IE (.nil _)))) (by kernel_rfl) mT BK none (by kernel_rfl) (fun x y h=>(Nw x).trans h)
def Al:List (Nat×Ann):=[]
noncomputable def jc:az:=⟨[.val cz,.val cz],[.val cz],fun x=>qs x.1 x.2.1⟩
noncomputable def Db:Cx:=⟨Tryz.prog,[(137,gN),(138,qo),(140,jI),(141,nS)],[]⟩
theorem LX:∀ x,aL Db Al none Tryz.f92 jc x=jc.m x:=by intro x;kernel_rfl
theorem Dd:av Tryz.prog 92:=aq (fn:=Tryz.f92) (by kernel_rfl) rfl (by decide)
theorem De:aC Tryz.prog 92 jc:=ax (X:=Db) (.cons rJ rG (.cons Sl R5 (.cons EY EH (.cons KO KM (.nil _))))) (by kernel_rfl) jc Al none (by kernel_rfl) (fun x y h=>(LX x).trans h)
def FI:List (Nat×Ann):=[(8,⟨[(0,.val (.slice an)),(2,.ref 2 0),(5,.val tI),(21,.val (.slice an)),(22,.val tI),(23,.val tI)],[(2,jy)],[],aZ _⟩),
 (14,⟨[(2,.ref 2 0),(5,.val tI),(8,.ref 8 0),(33,.val (.slice an)),(34,.val tI),(35,.val tI)],[(2,jy),(8,nY)],[],aZ _⟩),
 (200008,⟨[(0,.val (.slice an)),(2,.ref 2 0),(5,.val tI)],[(2,jy)],[],fun _=>0⟩),
 (200014,⟨[(2,.ref 2 0),(5,.val tI),(8,.ref 8 0)],[(2,jy),(8,nY)],[],fun _=>0⟩)]
noncomputable def rT:az:=⟨[.val (.slice an)],[.val an,.val tI],fun x=>Dk x.1⟩
noncomputable def Kx:Cx:=⟨Tryz.prog,[(84,eD),(85,gM),(91,ij),(92,jc),(93,mT)],[]⟩
theorem RI:∀ x,aL Kx FI none Tryz.f45 rT x=rT.m x:=by intro x;kernel_rfl
theorem Ub:av Tryz.prog 45:=aq (fn:=Tryz.f45) (by kernel_rfl) rfl (by decide)
theorem Ul:aC Tryz.prog 45 rT:=ax (X:=Kx) (.cons vz vw (.cons oS oP (.cons u9 uY (.cons De Dd (.cons Pq Pd (.nil _)))))) (by kernel_rfl) rT FI none (by kernel_rfl) (fun x y h=>(RI x).trans h)
def D4:List (Nat×Ann):=[(6,⟨[(6,.ref 6 0),(10,.own 32 an),(29,.rowR 70928),(30,.val tI),(31,.val tI)],[(6,jy)],[.rowC 70928 68 .hnd,.ar aV],aZ _⟩),
 (200006,⟨[(6,.ref 6 0),(10,.own 32 an)],[(6,jy)],[.ar aV],fun _=>0⟩)]
noncomputable def qh:az:=⟨[.val bh,.val (.slice aD),.val tI],[.val an,.val tI],fun x=>Bo x.1 x.2.1 x.2.2.1⟩
noncomputable def Ig:Cx:=⟨Tryz.prog,[(30,jf),(30,mh),(31,dn),(32,dX),(44,oF),(45,rT),(46,kT)],[]⟩
theorem Qk:∀ x,aL Ig D4 (some aV) Tryz.f14 qh x=qh.m x:=by intro x;kernel_rfl
theorem R2:av Tryz.prog 14:=aq (fn:=Tryz.f14) (by kernel_rfl) rfl (by decide)
theorem Si:aC Tryz.prog 14 qh:=ax (X:=Ig) (.cons xw xo (.cons Bn Bj (.cons mI mD (.cons nx nu (.cons QY QC (.cons Ul Ub (.cons Gq Gf (.nil _)))))))) (by kernel_rfl) qh D4 (some aV) (by kernel_rfl) (fun x y h=>(Qk x).trans h)
end Go.Proofs.SeatA
