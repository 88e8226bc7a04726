/-
  Each function that the law reaches is as its plain model says. No condition.
-/
import Derived.Test.YtcndcnfjdanbeaaGreatDoorVv
set_option linter.all false
set_option maxRecDepth 100000
namespace Go.Proofs.SeatA
open Go.Dn Go.Md Go.Proofs
def Lr:List CK:=[.val .bool,.own 192 (.int .u32)]
def Ed:List CK:=[.val .bool,.val (.slice (.int .u32))]
def Za:List CK:=[.val .bool,.val .bool,.val .bool,.val .bool,.val .bool,.val .bool]
def Zb:List CK:=[.val .str,.val .str,.val .str,.val tI,.val tI,.val (.slice fm),.val (.slice aD),.mapR 10,.own 133 an,.own 177 bZ,.val tI]
def Zc:List CK:=[.val .str,.val .str,.val .str,.val tI,.val tI,.val (.slice fm),.val (.slice aD),.mapR 10250003,.rowR 10250004,.rowR 10250005,.val tI]
def Ls:List CK:=[.val tI,.val tI,.val tI,.val tI,.val tI,.val .str,.val tI,.val tI,.val .str,.val tI,.val tI,.val tI,.val tI]
def FJ:List (Nat×Ann):=[]
noncomputable def lq:az:=⟨[.val .str],[.val .bool],fun x=>eY x.1⟩
noncomputable def Ky:Cx:=⟨Tryz.prog,[(178,Aa)],[]⟩
theorem RJ:∀ x,aL Ky FJ none Tryz.f118 lq x=lq.m x:=by intro x;kernel_rfl
theorem CE:av Tryz.prog 118:=aq (fn:=Tryz.f118) (by kernel_rfl) rfl (by decide)
theorem CI:aC Tryz.prog 118 lq:=ax (X:=Ky) (.cons Q4 QI (.nil _)) (by kernel_rfl) lq FJ none (by kernel_rfl) (fun x y h=>(RJ x).trans h)
def D3:List (Nat×Ann):=[]
noncomputable def ep:az:=⟨[.val tI,.val tI,.val tI],[.val .bool],fun x=>cX x.1 x.2.1 x.2.2.1⟩
noncomputable def Ie:Cx:=⟨Tryz.prog,[],[]⟩
theorem Qj:∀ x,aL Ie D3 none Tryz.f36 ep x=ep.m x:=by intro x;kernel_rfl
theorem jz:av Tryz.prog 36:=aq (fn:=Tryz.f36) (by kernel_rfl) rfl (by decide)
theorem jB:aC Tryz.prog 36 ep:=ax (X:=Ie) (.nil _) (by kernel_rfl) ep D3 none (by kernel_rfl) (fun x y h=>(Qj x).trans h)
def HI:List (Nat×Ann):=[]
noncomputable def iU:az:=⟨[.val tI],[.val .bool],fun x=>ou x.1⟩
noncomputable def Lx:Cx:=⟨Tryz.prog,[(36,ep)],[]⟩
theorem TT:∀ x,aL Lx HI none Tryz.f56 iU x=iU.m x:=by intro x;kernel_rfl
theorem tK:av Tryz.prog 56:=aq (fn:=Tryz.f56) (by kernel_rfl) rfl (by decide)
theorem tU:aC Tryz.prog 56 iU:=ax (X:=Lx) (.cons jB jz (.nil _)) (by kernel_rfl) iU HI none (by kernel_rfl) (fun x y h=>(TT x).trans h)
def tu:List (Nat×Ann):=[]
noncomputable def dR:az:=⟨[.val an],[.val tI],fun x=>eP x.1⟩
noncomputable def vX:Cx:=⟨Tryz.prog,[(36,ep)],[]⟩
theorem Fv:∀ x,aL vX tu none Tryz.f136 dR x=dR.m x:=by intro x;kernel_rfl
theorem oO:av Tryz.prog 136:=aq (fn:=Tryz.f136) (by kernel_rfl) rfl (by decide)
theorem oQ:aC Tryz.prog 136 dR:=ax (X:=vX) (.cons jB jz (.nil _)) (by kernel_rfl) dR tu none (by kernel_rfl) (fun x y h=>(Fv x).trans h)
def D5:List (Nat×Ann):=[(3,⟨[(3,.val tI),(4,.val tI),(5,.val tI)],[],[],aZ _⟩),
 (200003,⟨[(3,.val tI)],[],[],fun _=>0⟩)]
noncomputable def mw:az:=⟨[.val tI],[.val tI],fun x=>Bp x.1⟩
noncomputable def Ih:Cx:=⟨Tryz.prog,[],[]⟩
theorem Ql:∀ x,aL Ih D5 none Tryz.f120 mw x=mw.m x:=by intro x;kernel_rfl
theorem IB:av Tryz.prog 120:=aq (fn:=Tryz.f120) (by kernel_rfl) rfl (by decide)
theorem IK:aC Tryz.prog 120 mw:=ax (X:=Ih) (.nil _) (by kernel_rfl) mw D5 none (by kernel_rfl) (fun x y h=>(Ql x).trans h)
def C0:List (Nat×Ann):=[]
noncomputable def kW:az:=⟨[.val an,.val tI,.val tI],[.val .bool],fun x=>p7 x.1 x.2.1 x.2.2.1⟩
noncomputable def F6:Cx:=⟨Tryz.prog,[(120,mw)],[]⟩
theorem O0:∀ x,aL F6 C0 none Tryz.f179 kW x=kW.m x:=by intro x;kernel_rfl
theorem Gj:av Tryz.prog 179:=aq (fn:=Tryz.f179) (by kernel_rfl) rfl (by decide)
theorem Gs:aC Tryz.prog 179 kW:=ax (X:=F6) (.cons IK IB (.nil _)) (by kernel_rfl) kW C0 none (by kernel_rfl) (fun x y h=>(O0 x).trans h)
def tv:List (Nat×Ann):=[]
noncomputable def eL:az:=⟨[.val an,.val .bool],[.val tI],fun x=>jt x.1 x.2.1⟩
noncomputable def vY:Cx:=⟨Tryz.prog,[(136,dR),(179,kW)],[]⟩
theorem Fw:∀ x,aL vY tv none Tryz.f119 eL x=eL.m x:=by intro x;kernel_rfl
theorem wA:av Tryz.prog 119:=aq (fn:=Tryz.f119) (by kernel_rfl) rfl (by decide)
theorem wI:aC Tryz.prog 119 eL:=ax (X:=vY) (.cons oQ oO (.cons Gs Gj (.nil _))) (by kernel_rfl) eL tv none (by kernel_rfl) (fun x y h=>(Fw x).trans h)
def yg:List (Nat×Ann):=[]
noncomputable def gx:az:=⟨[.val an],[.val tI],fun x=>mL x.1⟩
noncomputable def Ap:Cx:=⟨Tryz.prog,[(136,dR),(179,kW)],[]⟩
theorem Jf:∀ x,aL Ap yg none Tryz.f199 gx x=gx.m x:=by intro x;kernel_rfl
theorem Av:av Tryz.prog 199:=aq (fn:=Tryz.f199) (by kernel_rfl) rfl (by decide)
theorem Ay:aC Tryz.prog 199 gx:=ax (X:=Ap) (.cons oQ oO (.cons Gs Gj (.nil _))) (by kernel_rfl) gx yg none (by kernel_rfl) (fun x y h=>(Jf x).trans h)
def yW:List (Nat×Ann):=[(300004,⟨[(17,.val .bool)],[],[],fun _=>0⟩)]
noncomputable def kj:az:=⟨[.val bh,.val tI],[.val tI],fun x=>sZ x.1 x.2.1⟩
noncomputable def BZ:Cx:=⟨Tryz.prog,[(36,ep),(118,lq),(119,eL),(199,gx)],[]⟩
theorem K0:∀ x,aL BZ yW none Tryz.f171 kj x=kj.m x:=by intro x;kernel_rfl
theorem L9:av Tryz.prog 171:=aq (fn:=Tryz.f171) (by kernel_rfl) rfl (by decide)
theorem MA:aC Tryz.prog 171 kj:=ax (X:=BZ) (.cons jB jz (.cons CI CE (.cons wI wA (.cons Ay Av (.nil _))))) (by kernel_rfl) kj yW none (by kernel_rfl) (fun x y h=>(K0 x).trans h)
def yf:List (Nat×Ann):=[(12,⟨[(1,.ref 1 0),(50,.val tI),(51,.val tI)],[(1,[.val .str,.val .str,.val .str,.val tI,.val tI,.val (.slice fm)])],[],aZ _⟩),
 (200012,⟨[],[],[],fun _=>0⟩)]
noncomputable def jw:az:=⟨[.val bh],[.val tI],fun x=>qO x.1⟩
noncomputable def Ao:Cx:=⟨Tryz.prog,[(36,ep),(56,iU),(118,lq),(171,kj)],[]⟩
theorem Je:∀ x,aL Ao yf none Tryz.f112 jw x=jw.m x:=by intro x;kernel_rfl
theorem K7:av Tryz.prog 112:=aq (fn:=Tryz.f112) (by kernel_rfl) rfl (by decide)
theorem K8:aC Tryz.prog 112 jw:=ax (X:=Ao) (.cons jB jz (.cons tU tK (.cons CI CE (.cons MA L9 (.nil _))))) (by kernel_rfl) jw yf none (by kernel_rfl) (fun x y h=>(Je x).trans h)
def yU:List (Nat×Ann):=[]
noncomputable def iu:az:=⟨[.val tI],[.val .bool],fun x=>oA x.1⟩
noncomputable def BX:Cx:=⟨Tryz.prog,[],[]⟩
theorem KY:∀ x,aL BX yU none Tryz.f177 iu x=iu.m x:=by intro x;kernel_rfl
theorem B9:av Tryz.prog 177:=aq (fn:=Tryz.f177) (by kernel_rfl) rfl (by decide)
theorem Cg:aC Tryz.prog 177 iu:=ax (X:=BX) (.nil _) (by kernel_rfl) iu yU none (by kernel_rfl) (fun x y h=>(KY x).trans h)
def CZ:List (Nat×Ann):=[]
noncomputable def kV:az:=⟨[.val tI],[.val Wf],fun x=>uc x.1⟩
noncomputable def F5:Cx:=⟨Tryz.prog,[],[]⟩
theorem OZ:∀ x,aL F5 CZ none Tryz.f62 kV x=kV.m x:=by intro x;kernel_rfl
theorem Gi:av Tryz.prog 62:=aq (fn:=Tryz.f62) (by kernel_rfl) rfl (by decide)
theorem Gr:aC Tryz.prog 62 kV:=ax (X:=F5) (.nil _) (by kernel_rfl) kV CZ none (by kernel_rfl) (fun x y h=>(OZ x).trans h)
def yY:List (Nat×Ann):=[(100003,⟨[(1,.ref 1 0),(3,.ref 3 0)],[(1,Ls),(3,Za)],[],fun _=>0⟩),
 (100007,⟨[(1,.ref 1 0),(3,.ref 3 0)],[(1,Ls),(3,Za)],[],fun _=>0⟩),
 (300011,⟨[(30,.val .bool)],[],[],fun _=>0⟩),
 (300013,⟨[(39,.val .bool)],[],[],fun _=>0⟩),
 (300015,⟨[(58,.val .bool)],[],[],fun _=>0⟩),
 (300017,⟨[(66,.val .bool)],[],[],fun _=>0⟩)]
noncomputable def ko:az:=⟨[.val aD],[.val tI],fun x=>s4 x.1⟩
noncomputable def B1:Cx:=⟨Tryz.prog,[(36,ep),(56,iU),(62,kV),(118,lq),(119,eL),(199,gx)],[]⟩
theorem K2:∀ x,aL B1 yY none Tryz.f180 ko x=ko.m x:=by intro x;kernel_rfl
theorem Ma:av Tryz.prog 180:=aq (fn:=Tryz.f180) (by kernel_rfl) rfl (by decide)
theorem MB:aC Tryz.prog 180 ko:=ax (X:=B1) (.cons jB jz (.cons tU tK (.cons Gr Gi (.cons CI CE (.cons wI wA (.cons Ay Av (.nil _))))))) (by kernel_rfl) ko yY none (by kernel_rfl) (fun x y h=>(K2 x).trans h)
def yT:List (Nat×Ann):=[]
noncomputable def kg:az:=⟨[.val aD],[.val tI],fun x=>sY x.1⟩
noncomputable def BW:Cx:=⟨Tryz.prog,[(36,ep),(56,iU),(177,iu),(180,ko)],[]⟩
theorem KX:∀ x,aL BW yT none Tryz.f124 kg x=kg.m x:=by intro x;kernel_rfl
theorem L7:av Tryz.prog 124:=aq (fn:=Tryz.f124) (by kernel_rfl) rfl (by decide)
theorem My:aC Tryz.prog 124 kg:=ax (X:=BW) (.cons jB jz (.cons tU tK (.cons Cg B9 (.cons MB Ma (.nil _))))) (by kernel_rfl) kg yT none (by kernel_rfl) (fun x y h=>(KX x).trans h)
def vp:List (Nat×Ann):=[(2,⟨[(22,.rowR 22),(23,.val tI),(24,.val tI)],[],[.rowC 22 3 tI],aZ _⟩),
 (200002,⟨[],[],[],fun _=>0⟩)]
noncomputable def iq:az:=⟨[.val aD,.val aD],[.val tI],fun x=>jX x.1 x.2.1⟩
noncomputable def yq:Cx:=⟨Tryz.prog,[],[]⟩
theorem GQ:∀ x,aL yq vp none Tryz.f125 iq x=iq.m x:=by intro x;kernel_rfl
theorem Iz:av Tryz.prog 125:=aq (fn:=Tryz.f125) (by kernel_rfl) rfl (by decide)
theorem II:aC Tryz.prog 125 iq:=ax (X:=yq) (.nil _) (by kernel_rfl) iq vp none (by kernel_rfl) (fun x y h=>(GQ x).trans h)
def yd:List (Nat×Ann):=[(5,⟨[(0,.val (.slice aD)),(3,.ref 3 0),(11,.val (.slice aD)),(12,.val tI),(13,.val tI)],[(3,[.val tI,.val tI,.val tI])],[],aZ _⟩),
 (200005,⟨[],[],[],fun _=>0⟩),
 (300010,⟨[(34,.val .bool)],[],[],fun _=>0⟩)]
noncomputable def gw:az:=⟨[.val (.slice aD)],[.val tI],fun x=>mJ x.1⟩
noncomputable def An:Cx:=⟨Tryz.prog,[(124,kg),(125,iq)],[]⟩
theorem Jd:∀ x,aL An yd none Tryz.f75 gw x=gw.m x:=by intro x;kernel_rfl
theorem Au:av Tryz.prog 75:=aq (fn:=Tryz.f75) (by kernel_rfl) rfl (by decide)
theorem Ax:aC Tryz.prog 75 gw:=ax (X:=An) (.cons My L7 (.cons II Iz (.nil _))) (by kernel_rfl) gw yd none (by kernel_rfl) (fun x y h=>(Jd x).trans h)
def BN:List (Nat×Ann):=[]
noncomputable def jG:az:=⟨[.val bh,.val (.slice aD)],[.val tI],fun x=>rK x.1 x.2.1⟩
noncomputable def Ei:Cx:=⟨Tryz.prog,[(75,gw),(112,jw)],[]⟩
theorem Nz:∀ x,aL Ei BN none Tryz.f55 jG x=jG.m x:=by intro x;kernel_rfl
theorem EA:av Tryz.prog 55:=aq (fn:=Tryz.f55) (by kernel_rfl) rfl (by decide)
theorem ER:aC Tryz.prog 55 jG:=ax (X:=Ei) (.cons Ax Au (.cons K8 K7 (.nil _))) (by kernel_rfl) jG BN none (by kernel_rfl) (fun x y h=>(Nz x).trans h)
def D6:List (Nat×Ann):=[]
noncomputable def fW:az:=⟨[.val an],[.val tI],fun x=>gB x.1⟩
noncomputable def Ii:Cx:=⟨Tryz.prog,[(120,mw)],[]⟩
theorem Qm:∀ x,aL Ii D6 none Tryz.f69 fW x=fW.m x:=by intro x;kernel_rfl
theorem pQ:av Tryz.prog 69:=aq (fn:=Tryz.f69) (by kernel_rfl) rfl (by decide)
theorem pW:aC Tryz.prog 69 fW:=ax (X:=Ii) (.cons IK IB (.nil _)) (by kernel_rfl) fW D6 none (by kernel_rfl) (fun x y h=>(Qm x).trans h)
def vR:List (Nat×Ann):=[(3,⟨[(5,.ref 12 0),(14,.val (.slice fm)),(15,.val tI),(16,.val tI)],[(12,Zb)],[.mapC 10 tI .hnd,.ar aV],aZ _⟩),
 (200003,⟨[(5,.ref 12 0)],[(12,Zb)],[.mapC 10 tI .hnd,.ar aV],fun _=>0⟩)]
noncomputable def fV:az:=⟨[.val bh,.val (.slice aD),.ar aV],[.box [.val bh,.val (.slice aD),.map tI .hnd,.row 133 an,.row 177 bZ,.val tI]],fun x=>jb x.1 x.2.1 x.2.2.1⟩
noncomputable def zh:Cx:=⟨Tryz.prog,[(69,fW)],[]⟩
theorem Iq:∀ x,aL zh vR none Tryz.f57 fV x=fV.m x:=by intro x;kernel_rfl
theorem zw:av Tryz.prog 57:=aq (fn:=Tryz.f57) (by kernel_rfl) rfl (by decide)
theorem zC:aC Tryz.prog 57 fV:=ax (X:=zh) (.cons pW pQ (.nil _)) (by kernel_rfl) fV vR none (by kernel_rfl) (fun x y h=>(Iq x).trans h)
def vq:List (Nat×Ann):=[]
noncomputable def ir:az:=⟨[.box [.val bh,.val (.slice aD),.map tI .hnd,.row 133 an,.row 177 bZ,.val tI],.val tI,.ar aV],[.val tI],fun x=>oz x.1 x.2.1 x.2.2.1⟩
noncomputable def yt:Cx:=⟨Tryz.prog,[],[]⟩
theorem GR:∀ x,aL yt vq none Tryz.f172 ir x=ir.m x:=by intro x;kernel_rfl
theorem IA:av Tryz.prog 172:=aq (fn:=Tryz.f172) (by kernel_rfl) rfl (by decide)
theorem IJ:aC Tryz.prog 172 ir:=ax (X:=yt) (.nil _) (by kernel_rfl) ir vq none (by kernel_rfl) (fun x y h=>(GR x).trans h)
def tE:List (Nat×Ann):=[(300002,⟨[(27,.val .bool)],[],[],fun _=>0⟩)]
noncomputable def gI:az:=⟨[.box [.val bh,.val (.slice aD),.map tI .hnd,.row 133 an,.row 177 bZ,.val tI],.val .hnd,.val tI,.ar aV],[.val tI],fun x=>nC x.1 x.2.1 x.2.2.1 x.2.2.2.1⟩
noncomputable def wh:Cx:=⟨Tryz.prog,[],[]⟩
theorem FB:∀ x,aL wh tE none Tryz.f173 gI x=gI.m x:=by intro x;kernel_rfl
theorem G4:av Tryz.prog 173:=aq (fn:=Tryz.f173) (by kernel_rfl) rfl (by decide)
theorem Hl:aC Tryz.prog 173 gI:=ax (X:=wh) (.nil _) (by kernel_rfl) gI tE none (by kernel_rfl) (fun x y h=>(FB x).trans h)
def rC:List (Nat×Ann):=[]
noncomputable def fK:az:=⟨[.box [.val bh,.val (.slice aD),.map tI .hnd,.row 133 an,.row 177 bZ,.val tI],.val .hnd,.val aD,.ar aV],[.val tI],fun x=>kO x.1 x.2.1 x.2.2.1 x.2.2.2.1⟩
noncomputable def tH:Cx:=⟨Tryz.prog,[(69,fW)],[]⟩
theorem Dl:∀ x,aL tH rC none Tryz.f63 fK x=fK.m x:=by intro x;kernel_rfl
theorem EB:av Tryz.prog 63:=aq (fn:=Tryz.f63) (by kernel_rfl) rfl (by decide)
theorem ES:aC Tryz.prog 63 fK:=ax (X:=tH) (.cons pW pQ (.nil _)) (by kernel_rfl) fK rC none (by kernel_rfl) (fun x y h=>(Dl x).trans h)
def yX:List (Nat×Ann):=[]
noncomputable def fL:az:=⟨[.val .hnd,.arR aV],[.val tI],fun x=>iS x.1 x.2.1⟩
noncomputable def B0:Cx:=⟨Tryz.prog,[],[]⟩
theorem K1:∀ x,aL B0 yX none Tryz.f43 fL x=fL.m x:=by intro x;kernel_rfl
theorem tL:av Tryz.prog 43:=aq (fn:=Tryz.f43) (by kernel_rfl) rfl (by decide)
theorem tV:aC Tryz.prog 43 fL:=ax (X:=B0) (.nil _) (by kernel_rfl) fL yX none (by kernel_rfl) (fun x y h=>(K1 x).trans h)
def qx:List (Nat×Ann):=[]
noncomputable def ff:az:=⟨[.box [.val bh,.val (.slice aD),.map tI .hnd,.row 133 an,.row 177 bZ,.val tI],.val .hnd,.val aD,.ar aV],[.val tI],fun x=>jN x.1 x.2.1 x.2.2.1 x.2.2.2.1⟩
noncomputable def sS:Cx:=⟨Tryz.prog,[(43,fL),(69,fW)],[]⟩
theorem CB:∀ x,aL sS qx none Tryz.f174 ff x=ff.m x:=by intro x;kernel_rfl
theorem Ds:av Tryz.prog 174:=aq (fn:=Tryz.f174) (by kernel_rfl) rfl (by decide)
theorem Dy:aC Tryz.prog 174 ff:=ax (X:=sS) (.cons tV tL (.cons pW pQ (.nil _))) (by kernel_rfl) ff qx none (by kernel_rfl) (fun x y h=>(CB x).trans h)
def tD:List (Nat×Ann):=[]
noncomputable def gH:az:=⟨[.box [.val bh,.val (.slice aD),.map tI .hnd,.row 133 an,.row 177 bZ,.val tI],.val .hnd,.val aD,.ar aV],[.val tI],fun x=>nB x.1 x.2.1 x.2.2.1 x.2.2.2.1⟩
noncomputable def wg:Cx:=⟨Tryz.prog,[],[]⟩
theorem FA:∀ x,aL wg tD none Tryz.f175 gH x=gH.m x:=by intro x;kernel_rfl
theorem GZ:av Tryz.prog 175:=aq (fn:=Tryz.f175) (by kernel_rfl) rfl (by decide)
theorem Hj:aC Tryz.prog 175 gH:=ax (X:=wg) (.nil _) (by kernel_rfl) gH tD none (by kernel_rfl) (fun x y h=>(FA x).trans h)
def tC:List (Nat×Ann):=[]
noncomputable def gG:az:=⟨[.box [.val bh,.val (.slice aD),.map tI .hnd,.row 133 an,.row 177 bZ,.val tI],.val .hnd,.val aD,.ar aV],[.val tI],fun x=>nA x.1 x.2.1 x.2.2.1 x.2.2.2.1⟩
noncomputable def we:Cx:=⟨Tryz.prog,[(69,fW)],[]⟩
theorem Fy:∀ x,aL we tC none Tryz.f176 gG x=gG.m x:=by intro x;kernel_rfl
theorem GY:av Tryz.prog 176:=aq (fn:=Tryz.f176) (by kernel_rfl) rfl (by decide)
theorem Hi:aC Tryz.prog 176 gG:=ax (X:=we) (.cons pW pQ (.nil _)) (by kernel_rfl) gG tC none (by kernel_rfl) (fun x y h=>(Fy x).trans h)
def tw:List (Nat×Ann):=[(100011,⟨[(0,.ref 2000 0),(1,.val tI),(5,.ref 5 0),(6,.val .hnd),(31,.val tI),(36,.val .bool)],[(5,Ls),(2000,Zc)],[.rowC 10250004 133 an,.rowC 10250005 177 bZ,.mapC 10250003 tI .hnd,.ar aV],fun _=>0⟩),
 (100015,⟨[(0,.ref 2000 0),(5,.ref 5 0),(6,.val .hnd),(31,.val tI),(44,.val .bool)],[(5,Ls),(2000,Zc)],[.rowC 10250004 133 an,.rowC 10250005 177 bZ,.mapC 10250003 tI .hnd,.ar aV],fun _=>0⟩),
 (100017,⟨[(5,.ref 5 0),(6,.val .hnd),(7,.val tI)],[(5,Ls),(2000,[.val .str,.val .str,.val .str,.val tI,.val tI,.val (.slice fm),.val (.slice aD),.map tI .hnd,.own 133 an,.own 177 bZ,.val tI])],[.ar aV],fun _=>0⟩),
 (300021,⟨[(69,.val .bool)],[],[],fun _=>0⟩)]
noncomputable def gF:az:=⟨[.box [.val bh,.val (.slice aD),.map tI .hnd,.row 133 an,.row 177 bZ,.val tI],.val tI,.ar aV],[.val tI],fun x=>aQ x.1 x.2.1 x.2.2.1⟩
noncomputable def vZ:Cx:=⟨Tryz.prog,[(63,fK),(69,fW),(172,ir),(173,gI),(174,ff),(175,gH),(176,gG),(177,iu)],[]⟩
theorem Fx:∀ x,aL vZ tw none Tryz.f113 gF x=gF.m x:=by intro x;kernel_rfl
theorem GX:av Tryz.prog 113:=aq (fn:=Tryz.f113) (by kernel_rfl) rfl (by decide)
theorem Hh:aC Tryz.prog 113 gF:=ax (X:=vZ) (.cons ES EB (.cons pW pQ (.cons IJ IA (.cons Hl G4 (.cons Dy Ds (.cons Hj GZ (.cons Hi GY (.cons Cg B9 (.nil _))))))))) (by kernel_rfl) gF tw none (by kernel_rfl) (fun x y h=>(Fx x).trans h)
def BT:List (Nat×Ann):=[(1,⟨[(0,.val (.slice (.int .u32)))],[],[],aZ _⟩),
 (200001,⟨[(0,.val (.slice (.int .u32)))],[],[],fun _=>0⟩)]
noncomputable def gU:az:=⟨[.val (.slice (.int .u32))],[.val (.slice (.int .u32))],fun x=>nU x.1⟩
noncomputable def Eo:Cx:=⟨Tryz.prog,[],[]⟩
theorem NG:∀ x,aL Eo BT none Tryz.f139 gU x=gU.m x:=by intro x;kernel_rfl
theorem xU:av Tryz.prog 139:=aq (fn:=Tryz.f139) (by kernel_rfl) rfl (by decide)
theorem xW:aC Tryz.prog 139 gU:=ax (X:=Eo) (.nil _) (by kernel_rfl) gU BT none (by kernel_rfl) (fun x y h=>(NG x).trans h)
def FU:List (Nat×Ann):=[]
noncomputable def gN:az:=⟨[.val .bool,.val (.slice (.int .u32))],[.val cz],fun x=>gP x.1 x.2.1⟩
noncomputable def KI:Cx:=⟨Tryz.prog,[(139,gU)],[]⟩
theorem RV:∀ x,aL KI FU none Tryz.f137 gN x=gN.m x:=by intro x;kernel_rfl
theorem rG:av Tryz.prog 137:=aq (fn:=Tryz.f137) (by kernel_rfl) rfl (by decide)
theorem rJ:aC Tryz.prog 137 gN:=ax (X:=KI) (.cons xW xU (.nil _)) (by kernel_rfl) gN FU none (by kernel_rfl) (fun x y h=>(RV x).trans h)
def Kw:List (Nat×Ann):=[(100003,⟨[(0,.val tI),(2,.ref 2 0),(3,.val (.int .u64))],[(2,Lr)],[],fun _=>0⟩)]
noncomputable def gM:az:=⟨[.val tI],[.val cz],fun x=>ja x.1⟩
noncomputable def Of:Cx:=⟨Tryz.prog,[(137,gN)],[]⟩
theorem Vn:∀ x,aL Of Kw none Tryz.f85 gM x=gM.m x:=by intro x;kernel_rfl
theorem oP:av Tryz.prog 85:=aq (fn:=Tryz.f85) (by kernel_rfl) rfl (by decide)
theorem oS:aC Tryz.prog 85 gM:=ax (X:=Of) (.cons rJ rG (.nil _)) (by kernel_rfl) gM Kw none (by kernel_rfl) (fun x y h=>(Vn x).trans h)
def HV:List (Nat×Ann):=[(6,⟨[(1,.val (.slice (.int .u32))),(5,.own 192 (.int .u32)),(6,.val (.int .u64)),(20,.val (.slice (.int .u32))),(21,.val tI),(22,.val tI)],[],[],aZ _⟩),
 (100002,⟨[(0,.val (.slice (.int .u32))),(1,.val (.slice (.int .u32)))],[],[],fun _=>0⟩),
 (100010,⟨[(1,.val (.slice (.int .u32))),(5,.own 192 (.int .u32)),(6,.val (.int .u64)),(20,.val (.slice (.int .u32))),(21,.val tI),(22,.val tI)],[],[],fun _=>0⟩),
 (200006,⟨[(5,.own 192 (.int .u32)),(6,.val (.int .u64))],[],[],fun _=>0⟩)]
noncomputable def uG:az:=⟨[.val (.slice (.int .u32)),.val (.slice (.int .u32))],[.row 192 (.int .u32)],fun x=>Ct x.1 x.2.1⟩
noncomputable def LN:Cx:=⟨Tryz.prog,[],[]⟩
theorem T9:∀ x,aL LN HV none Tryz.f138 uG x=uG.m x:=by intro x;kernel_rfl
theorem VE:av Tryz.prog 138:=aq (fn:=Tryz.f138) (by kernel_rfl) rfl (by decide)
theorem V1:aC Tryz.prog 138 uG:=ax (X:=LN) (.nil _) (by kernel_rfl) uG HV none (by kernel_rfl) (fun x y h=>(T9 x).trans h)
def Eb:List (Nat×Ann):=[(6,⟨[(1,.val (.slice (.int .u32))),(5,.own 192 (.int .u32)),(6,.val (.int .u64)),(20,.val (.slice (.int .u32))),(21,.val tI),(22,.val tI)],[],[],aZ _⟩),
 (100002,⟨[(0,.val (.slice (.int .u32))),(1,.val (.slice (.int .u32)))],[],[],fun _=>0⟩),
 (100010,⟨[(1,.val (.slice (.int .u32))),(5,.own 192 (.int .u32)),(6,.val (.int .u64)),(20,.val (.slice (.int .u32))),(21,.val tI),(22,.val tI)],[],[],fun _=>0⟩),
 (200006,⟨[(5,.own 192 (.int .u32)),(6,.val (.int .u64))],[],[],fun _=>0⟩)]
noncomputable def qo:az:=⟨[.val (.slice (.int .u32)),.val (.slice (.int .u32))],[.val (.slice (.int .u32))],fun x=>HF x.1 x.2.1⟩
noncomputable def Io:Cx:=⟨Tryz.prog,[],[]⟩
theorem Qr:∀ x,aL Io Eb none Tryz.f138 qo x=qo.m x:=by intro x;kernel_rfl
theorem R5:av Tryz.prog 138:=aq (fn:=Tryz.f138) (by kernel_rfl) rfl (by decide)
theorem Sl:aC Tryz.prog 138 qo:=ax (X:=Io) (.nil _) (by kernel_rfl) qo Eb none (by kernel_rfl) (fun x y h=>(Qr x).trans h)
def BS:List (Nat×Ann):=[(4,⟨[(0,.val (.slice (.int .u32))),(1,.val (.slice (.int .u32))),(5,.val tI)],[],[],aZ _⟩),
 (200004,⟨[],[],[],fun _=>0⟩)]
noncomputable def jI:az:=⟨[.val (.slice (.int .u32)),.val (.slice (.int .u32))],[.val tI],fun x=>rZ x.1 x.2.1⟩
noncomputable def En:Cx:=⟨Tryz.prog,[],[]⟩
theorem NF:∀ x,aL En BS none Tryz.f140 jI x=jI.m x:=by intro x;kernel_rfl
theorem EH:av Tryz.prog 140:=aq (fn:=Tryz.f140) (by kernel_rfl) rfl (by decide)
theorem EY:aC Tryz.prog 140 jI:=ax (X:=En) (.nil _) (by kernel_rfl) jI BS none (by kernel_rfl) (fun x y h=>(NF x).trans h)
def FT:List (Nat×Ann):=[(4,⟨[(1,.val (.slice (.int .u32))),(5,.own 192 (.int .u32)),(6,.val (.int .u64)),(13,.val (.slice (.int .u32))),(14,.val tI),(15,.val tI)],[],[],aZ _⟩),
 (100008,⟨[(1,.val (.slice (.int .u32))),(5,.own 192 (.int .u32)),(9,.val (.int .u64)),(13,.val (.slice (.int .u32))),(14,.val tI),(15,.val tI)],[],[],fun _=>0⟩),
 (200004,⟨[(5,.own 192 (.int .u32))],[],[],fun _=>0⟩)]
noncomputable def nS:az:=⟨[.val (.slice (.int .u32)),.val (.slice (.int .u32))],[.val (.slice (.int .u32))],fun x=>vo x.1 x.2.1⟩
noncomputable def KH:Cx:=⟨Tryz.prog,[(139,gU)],[]⟩
theorem RU:∀ x,aL KH FT none Tryz.f141 nS x=nS.m x:=by intro x;kernel_rfl
theorem KM:av Tryz.prog 141:=aq (fn:=Tryz.f141) (by kernel_rfl) rfl (by decide)
theorem KO:aC Tryz.prog 141 nS:=ax (X:=KH) (.cons xW xU (.nil _)) (by kernel_rfl) nS FT none (by kernel_rfl) (fun x y h=>(RU x).trans h)
def C4:List (Nat×Ann):=[(4,⟨[(2,.ref 2 0),(3,.ref 3 0),(4,.ref 4 0),(5,.ref 5 0),(6,.rowR 12),(7,.val (.slice (.int .u32))),(8,.val tI)],[(2,Ed),(3,Ed),(4,Lr),(5,Lr)],[.rowC 12 192 (.int .u32)],aZ _⟩),
 (200004,⟨[(4,.ref 4 0),(5,.ref 5 0),(6,.rowR 12),(7,.val (.slice (.int .u32)))],[(4,Lr),(5,Lr)],[.rowC 12 192 (.int .u32)],fun _=>0⟩)]
noncomputable def kX:az:=⟨[.val cz,.val cz],[.val cz,.val cz],fun x=>qq x.1 x.2.1⟩
noncomputable def Ga:Cx:=⟨Tryz.prog,[(137,gN),(138,uG),(139,gU),(140,jI),(141,nS)],[]⟩
theorem O4:∀ x,aL Ga C4 none Tryz.f87 kX x=kX.m x:=by intro x;kernel_rfl
theorem Gl:av Tryz.prog 87:=aq (fn:=Tryz.f87) (by kernel_rfl) rfl (by decide)
theorem Gu:aC Tryz.prog 87 kX:=ax (X:=Ga) (.cons rJ rG (.cons V1 VE (.cons xW xU (.cons EY EH (.cons KO KM (.nil _)))))) (by kernel_rfl) kX C4 none (by kernel_rfl) (fun x y h=>(O4 x).trans h)
def Am:List (Nat×Ann):=[]
noncomputable def gp:az:=⟨[.val cz],[.val tI],fun x=>fX x.1⟩
noncomputable def Dc:Cx:=⟨Tryz.prog,[],[]⟩
theorem LY:∀ x,aL Dc Am none Tryz.f89 gp x=gp.m x:=by intro x;kernel_rfl
theorem vJ:av Tryz.prog 89:=aq (fn:=Tryz.f89) (by kernel_rfl) rfl (by decide)
theorem vN:aC Tryz.prog 89 gp:=ax (X:=Dc) (.nil _) (by kernel_rfl) gp Am none (by kernel_rfl) (fun x y h=>(LY x).trans h)
def zb:List (Nat×Ann):=[]
noncomputable def fM:az:=⟨[.val cz],[.val cz],fun x=>kY x.1⟩
noncomputable def B4:Cx:=⟨Tryz.prog,[(137,gN)],[]⟩
theorem K5:∀ x,aL B4 zb none Tryz.f90 fM x=fM.m x:=by intro x;kernel_rfl
theorem tN:av Tryz.prog 90:=aq (fn:=Tryz.f90) (by kernel_rfl) rfl (by decide)
theorem tX:aC Tryz.prog 90 fM:=ax (X:=B4) (.cons rJ rG (.nil _)) (by kernel_rfl) fM zb none (by kernel_rfl) (fun x y h=>(K5 x).trans h)
def BR:List (Nat×Ann):=[(5,⟨[(1,.val tI),(2,.ref 2 0),(6,.val (.int .u64)),(14,.val (.slice (.int .u32))),(15,.val tI),(16,.val tI)],[(2,Ed)],[],aZ _⟩),
 (200005,⟨[(1,.val tI),(2,.ref 2 0),(6,.val (.int .u64))],[(2,Ed)],[],fun _=>0⟩)]
noncomputable def nc:az:=⟨[.val cz,.val tI],[.val tI,.val .bool],fun x=>xP x.1 x.2.1⟩
noncomputable def Em:Cx:=⟨Tryz.prog,[],[]⟩
theorem ND:∀ x,aL Em BR none Tryz.f142 nc x=nc.m x:=by intro x;kernel_rfl
theorem Pj:av Tryz.prog 142:=aq (fn:=Tryz.f142) (by kernel_rfl) rfl (by decide)
theorem Pw:aC Tryz.prog 142 nc:=ax (X:=Em) (.nil _) (by kernel_rfl) nc BR none (by kernel_rfl) (fun x y h=>(ND x).trans h)
def DZ:List (Nat×Ann):=[]
noncomputable def ij:az:=⟨[.val cz,.val tI],[.val an,.val tI],fun x=>iF x.1 x.2.1⟩
noncomputable def Ia:Cx:=⟨Tryz.prog,[(142,nc)],[]⟩
theorem Qg:∀ x,aL Ia DZ none Tryz.f91 ij x=ij.m x:=by intro x;kernel_rfl
theorem uY:av Tryz.prog 91:=aq (fn:=Tryz.f91) (by kernel_rfl) rfl (by decide)
theorem u9:aC Tryz.prog 91 ij:=ax (X:=Ia) (.cons Pw Pj (.nil _)) (by kernel_rfl) ij DZ none (by kernel_rfl) (fun x y h=>(Qg x).trans h)
def BJ:List (Nat×Ann):=[(2,⟨[(1,.val tI),(2,.ref 2 0),(4,.ref 4 0),(6,.ref 6 0)],[(2,Ed),(4,[.val tI,.val tI]),(6,Ed)],[],aZ _⟩),
 (200002,⟨[(1,.val tI),(2,.ref 2 0),(4,.ref 4 0)],[(2,Ed),(4,[.val tI,.val tI])],[],fun _=>0⟩)]
noncomputable def mS:az:=⟨[.val cz,.val tI],[.val an,.val tI],fun x=>xb x.1 x.2.1⟩
noncomputable def Ee:Cx:=⟨Tryz.prog,[(85,gM),(87,kX),(89,gp),(90,fM),(91,ij)],[]⟩
theorem Nv:∀ x,aL Ee BJ none Tryz.f108 mS x=mS.m x:=by intro x;kernel_rfl
theorem Pc:av Tryz.prog 108:=aq (fn:=Tryz.f108) (by kernel_rfl) rfl (by decide)
theorem Pp:aC Tryz.prog 108 mS:=ax (X:=Ee) (.cons oS oP (.cons Gu Gl (.cons vN vJ (.cons tX tN (.cons u9 uY (.nil _)))))) (by kernel_rfl) mS BJ none (by kernel_rfl) (fun x y h=>(Nv x).trans h)
end Go.Proofs.SeatA
