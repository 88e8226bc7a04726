/-
  Each function that the law reaches is as its plain model says. No condition.
-/
import Derived.Test.YtcpmaicaibdafaaGreatDoorXv
set_option linter.all false
set_option maxRecDepth 100000
namespace Go.Proofs.SeatA
open Go.Dn Go.Md Go.Proofs
def Kg:List CK:=[.val .bool,.own 203 (.int .u32)]
def N8:List CK:=[.val .bool,.val (.slice (.int .u32))]
def VU:List CK:=[.val .bool,.val .bool,.val .bool,.val .bool,.val .bool,.val .bool]
def VV:List CK:=[.val .str,.val .str,.val .str,.val tI,.val tI,.val (.slice pz),.val (.slice aQ),.mapR 10,.own 244 ay,.own 258 dy,.val tI]
def VW:List CK:=[.val .str,.val .str,.val .str,.val tI,.val tI,.val (.slice pz),.val (.slice aQ),.mapR 10250003,.rowR 10250004,.rowR 10250005,.val tI]
def Kh:List CK:=[.val .str,.val .str,.val .str,.val tI,.val tI,.val (.slice pz)]
def N9:List CK:=[.val .str,.val .str,.val tI,.val tI,.val tI,.val .bool,.val (.slice lY),.val (.slice kY),.val (.slice rW)]
def Ki:List CK:=[.val tI,.val tI,.val tI,.val tI,.val tI,.val .str,.val tI,.val tI,.val .str,.val tI,.val tI,.val tI,.val tI]
def FV:List (Nat×Ann):=[]
noncomputable def gu:aA:=⟨[.val .str],[.val .bool],fun x=>cO x.1⟩
noncomputable def Jv:Cx:=⟨Tryz.prog,[(88,A7)],[]⟩
theorem PI:∀ x,aV Jv FV none Tryz.f48 gu x=gu.m x:=by intro x;kernel_rfl
theorem mc:av Tryz.prog 48:=an (fn:=Tryz.f48) (by kernel_rfl) rfl (by decide)
theorem mj:aH Tryz.prog 48 gu:=aD (X:=Jv) (.cons OV OD (.nil _)) (by kernel_rfl) gu FV none (by kernel_rfl) (fun x y h=>(PI x).trans h)
def EA:List (Nat×Ann):=[]
noncomputable def cI:aA:=⟨[.val tI,.val tI,.val tI],[.val .bool],fun x=>bB x.1 x.2.1 x.2.2.1⟩
noncomputable def Hz:Cx:=⟨Tryz.prog,[],[]⟩
theorem Og:∀ x,aV Hz EA none Tryz.f35 cI x=cI.m x:=by intro x;kernel_rfl
theorem ff:av Tryz.prog 35:=an (fn:=Tryz.f35) (by kernel_rfl) rfl (by decide)
theorem fh:aH Tryz.prog 35 cI:=aD (X:=Hz) (.nil _) (by kernel_rfl) cI EA none (by kernel_rfl) (fun x y h=>(Og x).trans h)
def Hi:List (Nat×Ann):=[]
noncomputable def gN:aA:=⟨[.val tI],[.val .bool],fun x=>mg x.1⟩
noncomputable def Kp:Cx:=⟨Tryz.prog,[(35,cI)],[]⟩
theorem Rk:∀ x,aV Kp Hi none Tryz.f37 gN x=gN.m x:=by intro x;kernel_rfl
theorem nA:av Tryz.prog 37:=an (fn:=Tryz.f37) (by kernel_rfl) rfl (by decide)
theorem nE:aH Tryz.prog 37 gN:=aD (X:=Kp) (.cons fh ff (.nil _)) (by kernel_rfl) gN Hi none (by kernel_rfl) (fun x y h=>(Rk x).trans h)
def vV:List (Nat×Ann):=[]
noncomputable def cG:aA:=⟨[.val ay],[.val tI],fun x=>bY x.1⟩
noncomputable def yl:Cx:=⟨Tryz.prog,[(35,cI)],[]⟩
theorem FE:∀ x,aV yl vV none Tryz.f114 cG x=cG.m x:=by intro x;kernel_rfl
theorem gX:av Tryz.prog 114:=an (fn:=Tryz.f114) (by kernel_rfl) rfl (by decide)
theorem gY:aH Tryz.prog 114 cG:=aD (X:=yl) (.cons fh ff (.nil _)) (by kernel_rfl) cG vV none (by kernel_rfl) (fun x y h=>(FE x).trans h)
def EB:List (Nat×Ann):=[(3,⟨[(3,.val tI),(4,.val tI),(5,.val tI)],[],[],bp _⟩),
 (200003,⟨[(3,.val tI)],[],[],fun _=>0⟩)]
noncomputable def pM:aA:=⟨[.val tI],[.val tI],fun x=>Cg x.1⟩
noncomputable def HA:Cx:=⟨Tryz.prog,[],[]⟩
theorem Oh:∀ x,aV HA EB none Tryz.f215 pM x=pM.m x:=by intro x;kernel_rfl
theorem HR:av Tryz.prog 215:=an (fn:=Tryz.f215) (by kernel_rfl) rfl (by decide)
theorem HY:aH Tryz.prog 215 pM:=aD (X:=HA) (.nil _) (by kernel_rfl) pM EB none (by kernel_rfl) (fun x y h=>(Oh x).trans h)
def DF:List (Nat×Ann):=[]
noncomputable def oy:aA:=⟨[.val ay,.val tI,.val tI],[.val .bool],fun x=>s9 x.1 x.2.1 x.2.2.1⟩
noncomputable def Ge:Cx:=⟨Tryz.prog,[(215,pM)],[]⟩
theorem Nl:∀ x,aV Ge DF none Tryz.f210 oy x=oy.m x:=by intro x;kernel_rfl
theorem Gj:av Tryz.prog 210:=an (fn:=Tryz.f210) (by kernel_rfl) rfl (by decide)
theorem Gs:aH Tryz.prog 210 oy:=aD (X:=Ge) (.cons HY HR (.nil _)) (by kernel_rfl) oy DF none (by kernel_rfl) (fun x y h=>(Nl x).trans h)
def vY:List (Nat×Ann):=[]
noncomputable def ia:aA:=⟨[.val ay,.val .bool],[.val tI],fun x=>mH x.1 x.2.1⟩
noncomputable def yp:Cx:=⟨Tryz.prog,[(114,cG),(210,oy)],[]⟩
theorem FH:∀ x,aV yp vY none Tryz.f156 ia x=ia.m x:=by intro x;kernel_rfl
theorem yz:av Tryz.prog 156:=an (fn:=Tryz.f156) (by kernel_rfl) rfl (by decide)
theorem yB:aH Tryz.prog 156 ia:=aD (X:=yp) (.cons gY gX (.cons Gs Gj (.nil _))) (by kernel_rfl) ia vY none (by kernel_rfl) (fun x y h=>(FH x).trans h)
def zL:List (Nat×Ann):=[]
noncomputable def iu:aA:=⟨[.val ay],[.val tI],fun x=>kE x.1⟩
noncomputable def Bw:Cx:=⟨Tryz.prog,[(114,cG),(210,oy)],[]⟩
theorem Iw:∀ x,aV Bw zL none Tryz.f157 iu x=iu.m x:=by intro x;kernel_rfl
theorem vi:av Tryz.prog 157:=an (fn:=Tryz.f157) (by kernel_rfl) rfl (by decide)
theorem vl:aH Tryz.prog 157 iu:=aD (X:=Bw) (.cons gY gX (.cons Gs Gj (.nil _))) (by kernel_rfl) iu zL none (by kernel_rfl) (fun x y h=>(Iw x).trans h)
def Av:List (Nat×Ann):=[(300004,⟨[(17,.val .bool)],[],[],fun _=>0⟩)]
noncomputable def nN:aA:=⟨[.val bJ,.val tI],[.val tI],fun x=>vK x.1 x.2.1⟩
noncomputable def CH:Cx:=⟨Tryz.prog,[(35,cI),(48,gu),(156,ia),(157,iu)],[]⟩
theorem JU:∀ x,aV CH Av none Tryz.f87 nN x=nN.m x:=by intro x;kernel_rfl
theorem KN:av Tryz.prog 87:=an (fn:=Tryz.f87) (by kernel_rfl) rfl (by decide)
theorem Lh:aH Tryz.prog 87 nN:=aD (X:=CH) (.cons fh ff (.cons mj mc (.cons yB yz (.cons vl vi (.nil _))))) (by kernel_rfl) nN Av none (by kernel_rfl) (fun x y h=>(JU x).trans h)
def zK:List (Nat×Ann):=[(12,⟨[(1,.ref 1 0),(50,.val tI),(51,.val tI)],[(1,Kh)],[],bp _⟩),
 (200012,⟨[],[],[],fun _=>0⟩)]
noncomputable def ir:aA:=⟨[.val bJ],[.val tI],fun x=>mN x.1⟩
noncomputable def Bv:Cx:=⟨Tryz.prog,[(35,cI),(37,gN),(48,gu),(87,nN)],[]⟩
theorem Iv:∀ x,aV Bv zK none Tryz.f47 ir x=ir.m x:=by intro x;kernel_rfl
theorem vh:av Tryz.prog 47:=an (fn:=Tryz.f47) (by kernel_rfl) rfl (by decide)
theorem vk:aH Tryz.prog 47 ir:=aD (X:=Bv) (.cons fh ff (.cons nE nA (.cons mj mc (.cons Lh KN (.nil _))))) (by kernel_rfl) ir zK none (by kernel_rfl) (fun x y h=>(Iv x).trans h)
def Au:List (Nat×Ann):=[]
noncomputable def kV:aA:=⟨[.val tI],[.val .bool],fun x=>ri x.1⟩
noncomputable def CG:Cx:=⟨Tryz.prog,[],[]⟩
theorem JT:∀ x,aV CG Au none Tryz.f185 kV x=kV.m x:=by intro x;kernel_rfl
theorem CQ:av Tryz.prog 185:=an (fn:=Tryz.f185) (by kernel_rfl) rfl (by decide)
theorem C4:aH Tryz.prog 185 kV:=aD (X:=CG) (.nil _) (by kernel_rfl) kV Au none (by kernel_rfl) (fun x y h=>(JT x).trans h)
def DE:List (Nat×Ann):=[]
noncomputable def rD:aA:=⟨[.val tI],[.val Tj],fun x=>A2 x.1⟩
noncomputable def Gd:Cx:=⟨Tryz.prog,[],[]⟩
theorem Nk:∀ x,aV Gd DE none Tryz.f234 rD x=rD.m x:=by intro x;kernel_rfl
theorem OC:av Tryz.prog 234:=an (fn:=Tryz.f234) (by kernel_rfl) rfl (by decide)
theorem OU:aH Tryz.prog 234 rD:=aD (X:=Gd) (.nil _) (by kernel_rfl) rD DE none (by kernel_rfl) (fun x y h=>(Nk x).trans h)
def Ax:List (Nat×Ann):=[(100003,⟨[(1,.ref 1 0),(3,.ref 3 0)],[(1,Ki),(3,VU)],[],fun _=>0⟩),
 (100007,⟨[(1,.ref 1 0),(3,.ref 3 0)],[(1,Ki),(3,VU)],[],fun _=>0⟩),
 (300011,⟨[(30,.val .bool)],[],[],fun _=>0⟩),
 (300013,⟨[(39,.val .bool)],[],[],fun _=>0⟩),
 (300015,⟨[(58,.val .bool)],[],[],fun _=>0⟩),
 (300017,⟨[(66,.val .bool)],[],[],fun _=>0⟩)]
noncomputable def nO:aA:=⟨[.val aQ],[.val tI],fun x=>vL x.1⟩
noncomputable def CJ:Cx:=⟨Tryz.prog,[(35,cI),(37,gN),(48,gu),(156,ia),(157,iu),(234,rD)],[]⟩
theorem JW:∀ x,aV CJ Ax none Tryz.f186 nO x=nO.m x:=by intro x;kernel_rfl
theorem KO:av Tryz.prog 186:=an (fn:=Tryz.f186) (by kernel_rfl) rfl (by decide)
theorem Li:aH Tryz.prog 186 nO:=aD (X:=CJ) (.cons fh ff (.cons nE nA (.cons mj mc (.cons yB yz (.cons vl vi (.cons OU OC (.nil _))))))) (by kernel_rfl) nO Ax none (by kernel_rfl) (fun x y h=>(JW x).trans h)
def As:List (Nat×Ann):=[]
noncomputable def nM:aA:=⟨[.val aQ],[.val tI],fun x=>vJ x.1⟩
noncomputable def CF:Cx:=⟨Tryz.prog,[(35,cI),(37,gN),(185,kV),(186,nO)],[]⟩
theorem JS:∀ x,aV CF As none Tryz.f122 nM x=nM.m x:=by intro x;kernel_rfl
theorem KM:av Tryz.prog 122:=an (fn:=Tryz.f122) (by kernel_rfl) rfl (by decide)
theorem Lg:aH Tryz.prog 122 nM:=aD (X:=CF) (.cons fh ff (.cons nE nA (.cons C4 CQ (.cons Li KO (.nil _))))) (by kernel_rfl) nM As none (by kernel_rfl) (fun x y h=>(JS x).trans h)
def xN:List (Nat×Ann):=[(2,⟨[(22,.rowR 22),(23,.val tI),(24,.val tI)],[],[.rowC 22 3 tI],bp _⟩),
 (200002,⟨[],[],[],fun _=>0⟩)]
noncomputable def kT:aA:=⟨[.val aQ,.val aQ],[.val tI],fun x=>nF x.1 x.2.1⟩
noncomputable def zR:Cx:=⟨Tryz.prog,[],[]⟩
theorem GB:∀ x,aV zR xN none Tryz.f123 kT x=kT.m x:=by intro x;kernel_rfl
theorem HP:av Tryz.prog 123:=an (fn:=Tryz.f123) (by kernel_rfl) rfl (by decide)
theorem HW:aH Tryz.prog 123 kT:=aD (X:=zR) (.nil _) (by kernel_rfl) kT xN none (by kernel_rfl) (fun x y h=>(GB x).trans h)
def zJ:List (Nat×Ann):=[(5,⟨[(0,.val (.slice aQ)),(3,.ref 3 0),(11,.val (.slice aQ)),(12,.val tI),(13,.val tI)],[(3,[.val tI,.val tI,.val tI])],[],bp _⟩),
 (200005,⟨[],[],[],fun _=>0⟩),
 (300010,⟨[(34,.val .bool)],[],[],fun _=>0⟩)]
noncomputable def iq:aA:=⟨[.val (.slice aQ)],[.val tI],fun x=>mM x.1⟩
noncomputable def Bu:Cx:=⟨Tryz.prog,[(122,nM),(123,kT)],[]⟩
theorem Iu:∀ x,aV Bu zJ none Tryz.f68 iq x=iq.m x:=by intro x;kernel_rfl
theorem vg:av Tryz.prog 68:=an (fn:=Tryz.f68) (by kernel_rfl) rfl (by decide)
theorem vj:aH Tryz.prog 68 iq:=aD (X:=Bu) (.cons Lg KM (.cons HW HP (.nil _))) (by kernel_rfl) iq zJ none (by kernel_rfl) (fun x y h=>(Iu x).trans h)
def vW:List (Nat×Ann):=[]
noncomputable def gZ:aA:=⟨[.val ay],[.val tI],fun x=>mD x.1⟩
noncomputable def ym:Cx:=⟨Tryz.prog,[(35,cI)],[]⟩
theorem FF:∀ x,aV ym vW none Tryz.f13 gZ x=gZ.m x:=by intro x;kernel_rfl
theorem yy:av Tryz.prog 13:=an (fn:=Tryz.f13) (by kernel_rfl) rfl (by decide)
theorem yA:aH Tryz.prog 13 gZ:=aD (X:=ym) (.cons fh ff (.nil _)) (by kernel_rfl) gZ vW none (by kernel_rfl) (fun x y h=>(FF x).trans h)
def Dz:List (Nat×Ann):=[]
noncomputable def rB:aA:=⟨[.val tI],[.val .bool],fun x=>Ew x.1⟩
noncomputable def F7:Cx:=⟨Tryz.prog,[(35,cI)],[]⟩
theorem Nf:∀ x,aV F7 Dz none Tryz.f89 rB x=rB.m x:=by intro x;kernel_rfl
theorem OA:av Tryz.prog 89:=an (fn:=Tryz.f89) (by kernel_rfl) rfl (by decide)
theorem OR:aH Tryz.prog 89 rB:=aD (X:=F7) (.cons fh ff (.nil _)) (by kernel_rfl) rB Dz none (by kernel_rfl) (fun x y h=>(Nf x).trans h)
def FU:List (Nat×Ann):=[(3,⟨[(3,.val tI),(4,.val tI),(5,.val tI)],[],[],bp _⟩),
 (200003,⟨[(3,.val tI)],[],[],fun _=>0⟩)]
noncomputable def oA:aA:=⟨[.val tI],[.val tI],fun x=>xh x.1⟩
noncomputable def Ju:Cx:=⟨Tryz.prog,[],[]⟩
theorem PG:∀ x,aV Ju FU none Tryz.f191 oA x=oA.m x:=by intro x;kernel_rfl
theorem Dt:av Tryz.prog 191:=an (fn:=Tryz.f191) (by kernel_rfl) rfl (by decide)
theorem Dw:aH Tryz.prog 191 oA:=aD (X:=Ju) (.nil _) (by kernel_rfl) oA FU none (by kernel_rfl) (fun x y h=>(PG x).trans h)
def DC:List (Nat×Ann):=[]
noncomputable def jC:aA:=⟨[.val ay,.val tI],[.val .bool],fun x=>fA x.1 x.2.1⟩
noncomputable def Ga:Cx:=⟨Tryz.prog,[(35,cI),(191,oA)],[]⟩
theorem Ni:∀ x,aV Ga DC none Tryz.f165 jC x=jC.m x:=by intro x;kernel_rfl
theorem vG:av Tryz.prog 165:=an (fn:=Tryz.f165) (by kernel_rfl) rfl (by decide)
theorem vH:aH Tryz.prog 165 jC:=aD (X:=Ga) (.cons fh ff (.cons Dw Dt (.nil _))) (by kernel_rfl) jC DC none (by kernel_rfl) (fun x y h=>(Ni x).trans h)
def Ar:List (Nat×Ann):=[(6,⟨[(0,.val (.slice lY)),(12,.val (.slice lY)),(13,.val tI),(14,.val tI)],[],[],bp _⟩),
 (200006,⟨[],[],[],fun _=>0⟩)]
noncomputable def nL:aA:=⟨[.val (.slice lY)],[.val tI],fun x=>nY x.1⟩
noncomputable def CE:Cx:=⟨Tryz.prog,[(48,gu),(114,cG),(165,jC)],[]⟩
theorem JR:∀ x,aV CE Ar none Tryz.f90 nL x=nL.m x:=by intro x;kernel_rfl
theorem KL:av Tryz.prog 90:=an (fn:=Tryz.f90) (by kernel_rfl) rfl (by decide)
theorem Lf:aH Tryz.prog 90 nL:=aD (X:=CE) (.cons mj mc (.cons gY gX (.cons vH vG (.nil _)))) (by kernel_rfl) nL Ar none (by kernel_rfl) (fun x y h=>(JR x).trans h)
def Cq:List (Nat×Ann):=[]
noncomputable def qb:aA:=⟨[.val lY,.val .str],[.val tI],fun x=>Dm x.1 x.2.1⟩
noncomputable def EL:Cx:=⟨Tryz.prog,[(228,wQ)],[]⟩
theorem Ml:∀ x,aV EL Cq none Tryz.f227 qb x=qb.m x:=by intro x;kernel_rfl
theorem Nu:av Tryz.prog 227:=an (fn:=Tryz.f227) (by kernel_rfl) rfl (by decide)
theorem NI:aH Tryz.prog 227 qb:=aD (X:=EL) (.cons Lj KP (.nil _)) (by kernel_rfl) qb Cq none (by kernel_rfl) (fun x y h=>(Ml x).trans h)
def jK:List (Nat×Ann):=[(3,⟨[(0,.val (.slice lY)),(1,.val .str),(2,.val (.clo 227 .unit)),(8,.val tI),(9,.val tI),(10,.val tI)],[],[],bp _⟩),
 (200003,⟨[(0,.val (.slice lY)),(1,.val .str),(2,.val (.clo 227 .unit)),(8,.val tI),(9,.val tI)],[],[],fun _=>0⟩)]
noncomputable def cr:aA:=⟨[.val (.slice lY),.val .str,.val (.clo 227 .unit)],[.val tI,.val .bool],fun x=>dY x.1 x.2.1 x.2.2.1⟩
noncomputable def kJ:Cx:=⟨Tryz.prog,[(227,qb)],[]⟩
theorem rY:∀ x,aV kJ jK none Tryz.f226 cr x=cr.m x:=by intro x;kernel_rfl
theorem sW:av Tryz.prog 226:=an (fn:=Tryz.f226) (by kernel_rfl) rfl (by decide)
theorem s5:aH Tryz.prog 226 cr:=aD (X:=kJ) (.cons NI Nu (.nil _)) (by kernel_rfl) cr jK none (by kernel_rfl) (fun x y h=>(rY x).trans h)
def Ez:List (Nat×Ann):=[]
noncomputable def tj:aA:=⟨[.val (.slice lY),.val .str],[.val tI,.val .bool],fun x=>Cd x.1 x.2.1⟩
noncomputable def Hy:Cx:=⟨Tryz.prog,[(226,cr)],[]⟩
theorem Of:∀ x,aV Hy Ez none Tryz.f176 tj x=tj.m x:=by intro x;kernel_rfl
theorem PU:av Tryz.prog 176:=an (fn:=Tryz.f176) (by kernel_rfl) rfl (by decide)
theorem Qe:aH Tryz.prog 176 tj:=aD (X:=Hy) (.cons s5 sW (.nil _)) (by kernel_rfl) tj Ez none (by kernel_rfl) (fun x y h=>(Of x).trans h)
def DD:List (Nat×Ann):=[]
noncomputable def ox:aA:=⟨[.val bn,.val .str],[.val .bool],fun x=>jM x.1 x.2.1⟩
noncomputable def Gc:Cx:=⟨Tryz.prog,[(176,tj)],[]⟩
theorem Nj:∀ x,aV Gc DD none Tryz.f166 ox x=ox.m x:=by intro x;kernel_rfl
theorem Gi:av Tryz.prog 166:=an (fn:=Tryz.f166) (by kernel_rfl) rfl (by decide)
theorem Gr:aH Tryz.prog 166 ox:=aD (X:=Gc) (.cons Qe PU (.nil _)) (by kernel_rfl) ox DD none (by kernel_rfl) (fun x y h=>(Nj x).trans h)
def zH:List (Nat×Ann):=[(4,⟨[(2,.val .bool),(3,.ref 3 0),(13,.val (.slice rW)),(14,.val tI),(15,.val tI)],[(3,N9)],[],bp _⟩),
 (100012,⟨[(2,.val .bool),(3,.ref 3 0),(8,.ref 8 0),(13,.val (.slice rW)),(14,.val tI),(15,.val tI),(30,.val .bool)],[(3,N9),(8,[.val .bool,.val tI,.val tI,.val .str])],[],fun _=>0⟩),
 (200004,⟨[],[],[],fun _=>0⟩)]
noncomputable def jF:aA:=⟨[.val bn,.val (.slice rW),.val .bool],[.val tI],fun x=>kz x.1 x.2.1 x.2.2.1⟩
noncomputable def Br:Cx:=⟨Tryz.prog,[(114,cG),(165,jC),(166,ox)],[]⟩
theorem Is:∀ x,aV Br zH none Tryz.f92 jF x=jF.m x:=by intro x;kernel_rfl
theorem By:av Tryz.prog 92:=an (fn:=Tryz.f92) (by kernel_rfl) rfl (by decide)
theorem BA:aH Tryz.prog 92 jF:=aD (X:=Br) (.cons gY gX (.cons vH vG (.cons Gr Gi (.nil _)))) (by kernel_rfl) jF zH none (by kernel_rfl) (fun x y h=>(Is x).trans h)
def Bj:List (Nat×Ann):=[]
noncomputable def oL:aA:=⟨[.val bn,.val tI],[.val tI],fun x=>sN x.1 x.2.1⟩
noncomputable def DJ:Cx:=⟨Tryz.prog,[(35,cI),(48,gu),(92,jF),(114,cG),(157,iu),(165,jC),(166,ox)],[]⟩
theorem Kw:∀ x,aV DJ Bj none Tryz.f91 oL x=oL.m x:=by intro x;kernel_rfl
theorem Mu:av Tryz.prog 91:=an (fn:=Tryz.f91) (by kernel_rfl) rfl (by decide)
theorem Mz:aH Tryz.prog 91 oL:=aD (X:=DJ) (.cons fh ff (.cons mj mc (.cons BA By (.cons gY gX (.cons vl vi (.cons vH vG (.cons Gr Gi (.nil _)))))))) (by kernel_rfl) oL Bj none (by kernel_rfl) (fun x y h=>(Kw x).trans h)
def yf:List (Nat×Ann):=[(15,⟨[(1,.ref 1 0),(48,.val tI),(49,.val tI)],[(1,N9)],[],bp _⟩),
 (200015,⟨[(1,.ref 1 0)],[(1,N9)],[],fun _=>0⟩)]
noncomputable def jk:aA:=⟨[.val bn],[.val tI],fun x=>oC x.1⟩
noncomputable def AJ:Cx:=⟨Tryz.prog,[(35,cI),(37,gN),(48,gu),(89,rB),(90,nL),(91,oL),(92,jF)],[]⟩
theorem HF:∀ x,aV AJ yf none Tryz.f49 jk x=jk.m x:=by intro x;kernel_rfl
theorem AR:av Tryz.prog 49:=an (fn:=Tryz.f49) (by kernel_rfl) rfl (by decide)
theorem AW:aH Tryz.prog 49 jk:=aD (X:=AJ) (.cons fh ff (.cons nE nA (.cons mj mc (.cons OR OA (.cons Lf KL (.cons Mz Mu (.cons BA By (.nil _)))))))) (by kernel_rfl) jk yf none (by kernel_rfl) (fun x y h=>(HF x).trans h)
def Bk:List (Nat×Ann):=[(13,⟨[(1,.val (.slice aQ)),(3,.val (.slice bn)),(4,.ref 4 0),(6,.ref 6 0),(34,.val (.slice bn)),(35,.val tI),(36,.val tI)],[(4,Kh),(6,[.val tI,.val tI])],[],bp _⟩),
 (200013,⟨[(1,.val (.slice aQ)),(3,.val (.slice bn)),(4,.ref 4 0),(6,.ref 6 0)],[(4,Kh),(6,[.val tI,.val tI])],[],fun _=>0⟩),
 (300018,⟨[(58,.val .bool)],[],[],fun _=>0⟩)]
noncomputable def oM:aA:=⟨[.val bJ,.val (.slice aQ),.val ay,.val (.slice bn)],[.box [.val bJ,.val (.slice aQ),.val ay,.val (.slice bn),.map tI (.slice b8),.map tI aX,.row 37 fm],.val tI],fun x=>xg x.1 x.2.1 x.2.2.1 x.2.2.2.1⟩
noncomputable def DK:Cx:=⟨Tryz.prog,[(13,gZ),(47,ir),(49,jk),(68,iq)],[]⟩
theorem Kx:∀ x,aV DK Bk none Tryz.f30 oM x=oM.m x:=by intro x;kernel_rfl
theorem Mv:av Tryz.prog 30:=an (fn:=Tryz.f30) (by kernel_rfl) rfl (by decide)
theorem MA:aH Tryz.prog 30 oM:=aD (X:=DK) (.cons yA yy (.cons vk vh (.cons AW AR (.cons vj vg (.nil _))))) (by kernel_rfl) oM Bk none (by kernel_rfl) (fun x y h=>(Kx x).trans h)
def zI:List (Nat×Ann):=[(13,⟨[(1,.val (.slice aQ)),(3,.val (.slice bn)),(4,.ref 4 0),(6,.ref 6 0),(34,.val (.slice bn)),(35,.val tI),(36,.val tI)],[(4,Kh),(6,[.val tI,.val tI])],[],bp _⟩),
 (200013,⟨[(1,.val (.slice aQ)),(3,.val (.slice bn)),(4,.ref 4 0),(6,.ref 6 0)],[(4,Kh),(6,[.val tI,.val tI])],[],fun _=>0⟩),
 (300018,⟨[(58,.val .bool)],[],[],fun _=>0⟩)]
noncomputable def mJ:aA:=⟨[.val bJ,.val (.slice aQ),.val ay,.val (.slice bn)],[.val .hnd,.val tI],fun x=>tU x.1 x.2.1 x.2.2.1 x.2.2.2.1⟩
noncomputable def Bt:Cx:=⟨Tryz.prog,[(13,gZ),(47,ir),(49,jk),(68,iq)],[]⟩
theorem It:∀ x,aV Bt zI none Tryz.f30 mJ x=mJ.m x:=by intro x;kernel_rfl
theorem JZ:av Tryz.prog 30:=an (fn:=Tryz.f30) (by kernel_rfl) rfl (by decide)
theorem J2:aH Tryz.prog 30 mJ:=aD (X:=Bt) (.cons yA yy (.cons vk vh (.cons AW AR (.cons vj vg (.nil _))))) (by kernel_rfl) mJ zI none (by kernel_rfl) (fun x y h=>(It x).trans h)
def tG:List (Nat×Ann):=[]
noncomputable def lz:aA:=⟨[.val tI,.val tI,.box [.val bJ,.val (.slice aQ),.val ay,.val (.slice bn),.map tI (.slice b8),.map tI aX,.row 37 fm],.box [.val tI]],[],fun x=>gV x.1 x.2.1 x.2.2.1 x.2.2.2.1⟩
noncomputable def vB:Cx:=⟨Tryz.prog,[],[]⟩
theorem Dp:∀ x,Xl vB tG Tryz.f69 lz 2 x=lz.m x:=by intro x;kernel_rfl
noncomputable def Wm:Dk:= .nest 2 lz
theorem Y2:av Tryz.prog 69:=an (fn:=Tryz.f69) (by kernel_rfl) rfl (by decide)
theorem Y3:LJ Tryz.prog 69 Wm:=YC (X:=vB) (.nil _) (by kernel_rfl) lz 2 tG (by kernel_rfl) (fun x y h=>(Dp x).trans h)
def tH:List (Nat×Ann):=[]
noncomputable def iE:aA:=⟨[.val bn,.val (.ptr bn)],[.val .bool],fun x=>rK x.1 x.2.1⟩
noncomputable def vC:Cx:=⟨Tryz.prog,[],[]⟩
theorem Dq:∀ x,aV vC tH none Tryz.f71 iE x=iE.m x:=by intro x;kernel_rfl
theorem D4:av Tryz.prog 71:=an (fn:=Tryz.f71) (by kernel_rfl) rfl (by decide)
theorem Ea:aH Tryz.prog 71 iE:=aD (X:=vC) (.nil _) (by kernel_rfl) iE tH none (by kernel_rfl) (fun x y h=>(Dq x).trans h)
def pF:List (Nat×Ann):=[(2,⟨[(0,.val (.slice bn)),(1,.val (.clo 71 (.ptr bn))),(7,.val tI),(8,.val tI)],[],[],bp _⟩),
 (200002,⟨[],[],[],fun _=>0⟩)]
noncomputable def eG:aA:=⟨[.val (.slice bn),.val (.clo 71 (.ptr bn))],[.val tI],fun x=>mQ x.1 x.2.1⟩
noncomputable def qA:Cx:=⟨Tryz.prog,[(71,iE)],[]⟩
theorem zn:∀ x,aV qA pF none Tryz.f124 eG x=eG.m x:=by intro x;kernel_rfl
theorem Ae:av Tryz.prog 124:=an (fn:=Tryz.f124) (by kernel_rfl) rfl (by decide)
theorem Ag:aH Tryz.prog 124 eG:=aD (X:=qA) (.cons Ea D4 (.nil _)) (by kernel_rfl) eG pF none (by kernel_rfl) (fun x y h=>(zn x).trans h)
def nt:List (Nat×Ann):=[]
noncomputable def dJ:aA:=⟨[.val (.slice bn),.val (.clo 71 (.ptr bn))],[.val .bool],fun x=>gR x.1 x.2.1⟩
noncomputable def oD:Cx:=⟨Tryz.prog,[(124,eG)],[]⟩
theorem xm:∀ x,aV oD nt none Tryz.f70 dJ x=dJ.m x:=by intro x;kernel_rfl
theorem xV:av Tryz.prog 70:=an (fn:=Tryz.f70) (by kernel_rfl) rfl (by decide)
theorem x4:aH Tryz.prog 70 dJ:=aD (X:=oD) (.cons Ag Ae (.nil _)) (by kernel_rfl) dJ nt none (by kernel_rfl) (fun x y h=>(xm x).trans h)
def Cs:List (Nat×Ann):=[]
noncomputable def mT:aA:=⟨[.val bJ,.val (.slice aQ)],[.val tI],fun x=>uJ x.1 x.2.1⟩
noncomputable def EN:Cx:=⟨Tryz.prog,[(47,ir),(68,iq)],[]⟩
theorem Mn:∀ x,aV EN Cs none Tryz.f98 mT x=mT.m x:=by intro x;kernel_rfl
theorem E3:av Tryz.prog 98:=an (fn:=Tryz.f98) (by kernel_rfl) rfl (by decide)
theorem Fg:aH Tryz.prog 98 mT:=aD (X:=EN) (.cons vk vh (.cons vj vg (.nil _))) (by kernel_rfl) mT Cs none (by kernel_rfl) (fun x y h=>(Mn x).trans h)
def EC:List (Nat×Ann):=[]
noncomputable def jm:aA:=⟨[.val ay],[.val tI],fun x=>jO x.1⟩
noncomputable def HB:Cx:=⟨Tryz.prog,[(215,pM)],[]⟩
theorem Oi:∀ x,aV HB EC none Tryz.f170 jm x=jm.m x:=by intro x;kernel_rfl
theorem sV:av Tryz.prog 170:=an (fn:=Tryz.f170) (by kernel_rfl) rfl (by decide)
theorem sY:aH Tryz.prog 170 jm:=aD (X:=HB) (.cons HY HR (.nil _)) (by kernel_rfl) jm EC none (by kernel_rfl) (fun x y h=>(Oi x).trans h)
def yh:List (Nat×Ann):=[(3,⟨[(5,.ref 12 0),(14,.val (.slice pz)),(15,.val tI),(16,.val tI)],[(12,VV)],[.mapC 10 tI .hnd,.ar bO],bp _⟩),
 (200003,⟨[(5,.ref 12 0)],[(12,VV)],[.mapC 10 tI .hnd,.ar bO],fun _=>0⟩)]
noncomputable def jl:aA:=⟨[.val bJ,.val (.slice aQ),.ar bO],[.box [.val bJ,.val (.slice aQ),.map tI .hnd,.row 244 ay,.row 258 dy,.val tI]],fun x=>l7 x.1 x.2.1 x.2.2.1⟩
noncomputable def AL:Cx:=⟨Tryz.prog,[(170,jm)],[]⟩
theorem HH:∀ x,aV AL yh none Tryz.f99 jl x=jl.m x:=by intro x;kernel_rfl
theorem AS:av Tryz.prog 99:=an (fn:=Tryz.f99) (by kernel_rfl) rfl (by decide)
theorem AY:aH Tryz.prog 99 jl:=aD (X:=AL) (.cons sY sV (.nil _)) (by kernel_rfl) jl yh none (by kernel_rfl) (fun x y h=>(HH x).trans h)
def xO:List (Nat×Ann):=[]
noncomputable def kU:aA:=⟨[.box [.val bJ,.val (.slice aQ),.map tI .hnd,.row 244 ay,.row 258 dy,.val tI],.val tI,.ar bO],[.val tI],fun x=>rf x.1 x.2.1 x.2.2.1⟩
noncomputable def zS:Cx:=⟨Tryz.prog,[],[]⟩
theorem GC:∀ x,aV zS xO none Tryz.f216 kU x=kU.m x:=by intro x;kernel_rfl
theorem HQ:av Tryz.prog 216:=an (fn:=Tryz.f216) (by kernel_rfl) rfl (by decide)
theorem HX:aH Tryz.prog 216 kU:=aD (X:=zS) (.nil _) (by kernel_rfl) kU xO none (by kernel_rfl) (fun x y h=>(GC x).trans h)
def wg:List (Nat×Ann):=[(300002,⟨[(27,.val .bool)],[],[],fun _=>0⟩)]
noncomputable def jX:aA:=⟨[.box [.val bJ,.val (.slice aQ),.map tI .hnd,.row 244 ay,.row 258 dy,.val tI],.val .hnd,.val tI,.ar bO],[.val tI],fun x=>qv x.1 x.2.1 x.2.2.1 x.2.2.2.1⟩
noncomputable def yw:Cx:=⟨Tryz.prog,[],[]⟩
theorem FL:∀ x,aV yw wg none Tryz.f217 jX x=jX.m x:=by intro x;kernel_rfl
theorem GL:av Tryz.prog 217:=an (fn:=Tryz.f217) (by kernel_rfl) rfl (by decide)
theorem GV:aH Tryz.prog 217 jX:=aD (X:=yw) (.nil _) (by kernel_rfl) jX wg none (by kernel_rfl) (fun x y h=>(FL x).trans h)
def uA:List (Nat×Ann):=[]
noncomputable def iX:aA:=⟨[.box [.val bJ,.val (.slice aQ),.map tI .hnd,.row 244 ay,.row 258 dy,.val tI],.val .hnd,.val aQ,.ar bO],[.val tI],fun x=>og x.1 x.2.1 x.2.2.1 x.2.2.2.1⟩
noncomputable def wq:Cx:=⟨Tryz.prog,[(170,jm)],[]⟩
theorem DY:∀ x,aV wq uA none Tryz.f218 iX x=iX.m x:=by intro x;kernel_rfl
theorem E4:av Tryz.prog 218:=an (fn:=Tryz.f218) (by kernel_rfl) rfl (by decide)
theorem Fh:aH Tryz.prog 218 iX:=aD (X:=wq) (.cons sY sV (.nil _)) (by kernel_rfl) iX uA none (by kernel_rfl) (fun x y h=>(DY x).trans h)
def Aw:List (Nat×Ann):=[]
noncomputable def kW:aA:=⟨[.val .hnd,.arR bO],[.val tI],fun x=>ou x.1 x.2.1⟩
noncomputable def CI:Cx:=⟨Tryz.prog,[],[]⟩
theorem JV:∀ x,aV CI Aw none Tryz.f105 kW x=kW.m x:=by intro x;kernel_rfl
theorem CR:av Tryz.prog 105:=an (fn:=Tryz.f105) (by kernel_rfl) rfl (by decide)
theorem C5:aH Tryz.prog 105 kW:=aD (X:=CI) (.nil _) (by kernel_rfl) kW Aw none (by kernel_rfl) (fun x y h=>(JV x).trans h)
def tJ:List (Nat×Ann):=[]
noncomputable def iG:aA:=⟨[.box [.val bJ,.val (.slice aQ),.map tI .hnd,.row 244 ay,.row 258 dy,.val tI],.val .hnd,.val aQ,.ar bO],[.val tI],fun x=>nk x.1 x.2.1 x.2.2.1 x.2.2.2.1⟩
noncomputable def vD:Cx:=⟨Tryz.prog,[(105,kW),(170,jm)],[]⟩
theorem Dr:∀ x,aV vD tJ none Tryz.f219 iG x=iG.m x:=by intro x;kernel_rfl
theorem D5:av Tryz.prog 219:=an (fn:=Tryz.f219) (by kernel_rfl) rfl (by decide)
theorem Eb:aH Tryz.prog 219 iG:=aD (X:=vD) (.cons C5 CR (.cons sY sV (.nil _))) (by kernel_rfl) iG tJ none (by kernel_rfl) (fun x y h=>(Dr x).trans h)
def we:List (Nat×Ann):=[]
noncomputable def jW:aA:=⟨[.box [.val bJ,.val (.slice aQ),.map tI .hnd,.row 244 ay,.row 258 dy,.val tI],.val .hnd,.val aQ,.ar bO],[.val tI],fun x=>qu x.1 x.2.1 x.2.2.1 x.2.2.2.1⟩
noncomputable def yu:Cx:=⟨Tryz.prog,[],[]⟩
theorem FK:∀ x,aV yu we none Tryz.f220 jW x=jW.m x:=by intro x;kernel_rfl
theorem GK:av Tryz.prog 220:=an (fn:=Tryz.f220) (by kernel_rfl) rfl (by decide)
theorem GU:aH Tryz.prog 220 jW:=aD (X:=yu) (.nil _) (by kernel_rfl) jW we none (by kernel_rfl) (fun x y h=>(FK x).trans h)
def v8:List (Nat×Ann):=[]
noncomputable def jV:aA:=⟨[.box [.val bJ,.val (.slice aQ),.map tI .hnd,.row 244 ay,.row 258 dy,.val tI],.val .hnd,.val aQ,.ar bO],[.val tI],fun x=>qs x.1 x.2.1 x.2.2.1 x.2.2.2.1⟩
noncomputable def yt:Cx:=⟨Tryz.prog,[(170,jm)],[]⟩
theorem FJ:∀ x,aV yt v8 none Tryz.f221 jV x=jV.m x:=by intro x;kernel_rfl
theorem GJ:av Tryz.prog 221:=an (fn:=Tryz.f221) (by kernel_rfl) rfl (by decide)
theorem GS:aH Tryz.prog 221 jV:=aD (X:=yt) (.cons sY sV (.nil _)) (by kernel_rfl) jV v8 none (by kernel_rfl) (fun x y h=>(FJ x).trans h)
def vZ:List (Nat×Ann):=[(100011,⟨[(0,.ref 2000 0),(1,.val tI),(5,.ref 5 0),(6,.val .hnd),(31,.val tI),(36,.val .bool)],[(5,Ki),(2000,VW)],[.rowC 10250004 244 ay,.rowC 10250005 258 dy,.mapC 10250003 tI .hnd,.ar bO],fun _=>0⟩),
 (100015,⟨[(0,.ref 2000 0),(5,.ref 5 0),(6,.val .hnd),(31,.val tI),(44,.val .bool)],[(5,Ki),(2000,VW)],[.rowC 10250004 244 ay,.rowC 10250005 258 dy,.mapC 10250003 tI .hnd,.ar bO],fun _=>0⟩),
 (100017,⟨[(5,.ref 5 0),(6,.val .hnd),(7,.val tI)],[(5,Ki),(2000,[.val .str,.val .str,.val .str,.val tI,.val tI,.val (.slice pz),.val (.slice aQ),.map tI .hnd,.own 244 ay,.own 258 dy,.val tI])],[.ar bO],fun _=>0⟩),
 (300021,⟨[(69,.val .bool)],[],[],fun _=>0⟩)]
noncomputable def jU:aA:=⟨[.box [.val bJ,.val (.slice aQ),.map tI .hnd,.row 244 ay,.row 258 dy,.val tI],.val tI,.ar bO],[.val tI],fun x=>aS x.1 x.2.1 x.2.2.1⟩
noncomputable def yq:Cx:=⟨Tryz.prog,[(170,jm),(185,kV),(216,kU),(217,jX),(218,iX),(219,iG),(220,jW),(221,jV)],[]⟩
theorem FI:∀ x,aV yq vZ none Tryz.f171 jU x=jU.m x:=by intro x;kernel_rfl
theorem GI:av Tryz.prog 171:=an (fn:=Tryz.f171) (by kernel_rfl) rfl (by decide)
theorem GR:aH Tryz.prog 171 jU:=aD (X:=yq) (.cons sY sV (.cons C4 CQ (.cons HX HQ (.cons GV GL (.cons Fh E4 (.cons Eb D5 (.cons GU GK (.cons GS GJ (.nil _))))))))) (by kernel_rfl) jU vZ none (by kernel_rfl) (fun x y h=>(FI x).trans h)
def Cv:List (Nat×Ann):=[(1,⟨[(0,.val (.slice (.int .u32)))],[],[],bp _⟩),
 (200001,⟨[(0,.val (.slice (.int .u32)))],[],[],fun _=>0⟩)]
noncomputable def kG:aA:=⟨[.val (.slice (.int .u32))],[.val (.slice (.int .u32))],fun x=>qI x.1⟩
noncomputable def ER:Cx:=⟨Tryz.prog,[],[]⟩
theorem Mq:∀ x,aV ER Cv none Tryz.f150 kG x=kG.m x:=by intro x;kernel_rfl
theorem zu:av Tryz.prog 150:=an (fn:=Tryz.f150) (by kernel_rfl) rfl (by decide)
theorem zx:aH Tryz.prog 150 kG:=aD (X:=ER) (.nil _) (by kernel_rfl) kG Cv none (by kernel_rfl) (fun x y h=>(Mq x).trans h)
def FZ:List (Nat×Ann):=[]
noncomputable def ki:aA:=⟨[.val .bool,.val (.slice (.int .u32))],[.val aX],fun x=>ko x.1 x.2.1⟩
noncomputable def Jz:Cx:=⟨Tryz.prog,[(150,kG)],[]⟩
theorem PN:∀ x,aV Jz FZ none Tryz.f115 ki x=ki.m x:=by intro x;kernel_rfl
theorem uF:av Tryz.prog 115:=an (fn:=Tryz.f115) (by kernel_rfl) rfl (by decide)
theorem uI:aH Tryz.prog 115 ki:=aD (X:=Jz) (.cons zx zu (.nil _)) (by kernel_rfl) ki FZ none (by kernel_rfl) (fun x y h=>(PN x).trans h)
def Jn:List (Nat×Ann):=[(100003,⟨[(0,.val tI),(2,.ref 2 0),(3,.val (.int .u64))],[(2,Kg)],[],fun _=>0⟩)]
noncomputable def jZ:aA:=⟨[.val tI],[.val aX],fun x=>mV x.1⟩
noncomputable def ML:Cx:=⟨Tryz.prog,[(115,ki)],[]⟩
theorem Se:∀ x,aV ML Jn none Tryz.f64 jZ x=jZ.m x:=by intro x;kernel_rfl
theorem rL:av Tryz.prog 64:=an (fn:=Tryz.f64) (by kernel_rfl) rfl (by decide)
theorem rP:aH Tryz.prog 64 jZ:=aD (X:=ML) (.cons uI uF (.nil _)) (by kernel_rfl) jZ Jn none (by kernel_rfl) (fun x y h=>(Se x).trans h)
def Ho:List (Nat×Ann):=[(6,⟨[(1,.val (.slice (.int .u32))),(5,.own 203 (.int .u32)),(6,.val (.int .u64)),(20,.val (.slice (.int .u32))),(21,.val tI),(22,.val tI)],[],[],bp _⟩),
 (100002,⟨[(0,.val (.slice (.int .u32))),(1,.val (.slice (.int .u32)))],[],[],fun _=>0⟩),
 (100010,⟨[(1,.val (.slice (.int .u32))),(5,.own 203 (.int .u32)),(6,.val (.int .u64)),(20,.val (.slice (.int .u32))),(21,.val tI),(22,.val tI)],[],[],fun _=>0⟩),
 (200006,⟨[(5,.own 203 (.int .u32)),(6,.val (.int .u64))],[],[],fun _=>0⟩)]
noncomputable def wR:aA:=⟨[.val (.slice (.int .u32)),.val (.slice (.int .u32))],[.row 203 (.int .u32)],fun x=>Dh x.1 x.2.1⟩
noncomputable def Ks:Cx:=⟨Tryz.prog,[],[]⟩
theorem Rn:∀ x,aV Ks Ho none Tryz.f116 wR x=wR.m x:=by intro x;kernel_rfl
theorem Sv:av Tryz.prog 116:=an (fn:=Tryz.f116) (by kernel_rfl) rfl (by decide)
theorem SQ:aH Tryz.prog 116 wR:=aD (X:=Ks) (.nil _) (by kernel_rfl) wR Ho none (by kernel_rfl) (fun x y h=>(Rn x).trans h)
def EE:List (Nat×Ann):=[(6,⟨[(1,.val (.slice (.int .u32))),(5,.own 203 (.int .u32)),(6,.val (.int .u64)),(20,.val (.slice (.int .u32))),(21,.val tI),(22,.val tI)],[],[],bp _⟩),
 (100002,⟨[(0,.val (.slice (.int .u32))),(1,.val (.slice (.int .u32)))],[],[],fun _=>0⟩),
 (100010,⟨[(1,.val (.slice (.int .u32))),(5,.own 203 (.int .u32)),(6,.val (.int .u64)),(20,.val (.slice (.int .u32))),(21,.val tI),(22,.val tI)],[],[],fun _=>0⟩),
 (200006,⟨[(5,.own 203 (.int .u32)),(6,.val (.int .u64))],[],[],fun _=>0⟩)]
noncomputable def tr:aA:=⟨[.val (.slice (.int .u32)),.val (.slice (.int .u32))],[.val (.slice (.int .u32))],fun x=>G7 x.1 x.2.1⟩
noncomputable def HD:Cx:=⟨Tryz.prog,[],[]⟩
theorem Ol:∀ x,aV HD EE none Tryz.f116 tr x=tr.m x:=by intro x;kernel_rfl
theorem PW:av Tryz.prog 116:=an (fn:=Tryz.f116) (by kernel_rfl) rfl (by decide)
theorem Qg:aH Tryz.prog 116 tr:=aD (X:=HD) (.nil _) (by kernel_rfl) tr EE none (by kernel_rfl) (fun x y h=>(Ol x).trans h)
def Cu:List (Nat×Ann):=[(4,⟨[(0,.val (.slice (.int .u32))),(1,.val (.slice (.int .u32))),(5,.val tI)],[],[],bp _⟩),
 (200004,⟨[],[],[],fun _=>0⟩)]
noncomputable def mU:aA:=⟨[.val (.slice (.int .u32)),.val (.slice (.int .u32))],[.val tI],fun x=>uT x.1 x.2.1⟩
noncomputable def EP:Cx:=⟨Tryz.prog,[],[]⟩
theorem Mp:∀ x,aV EP Cu none Tryz.f117 mU x=mU.m x:=by intro x;kernel_rfl
theorem E6:av Tryz.prog 117:=an (fn:=Tryz.f117) (by kernel_rfl) rfl (by decide)
theorem Fj:aH Tryz.prog 117 mU:=aD (X:=EP) (.nil _) (by kernel_rfl) mU Cu none (by kernel_rfl) (fun x y h=>(Mp x).trans h)
def FY:List (Nat×Ann):=[(4,⟨[(1,.val (.slice (.int .u32))),(5,.own 203 (.int .u32)),(6,.val (.int .u64)),(13,.val (.slice (.int .u32))),(14,.val tI),(15,.val tI)],[],[],bp _⟩),
 (100008,⟨[(1,.val (.slice (.int .u32))),(5,.own 203 (.int .u32)),(9,.val (.int .u64)),(13,.val (.slice (.int .u32))),(14,.val tI),(15,.val tI)],[],[],fun _=>0⟩),
 (200004,⟨[(5,.own 203 (.int .u32))],[],[],fun _=>0⟩)]
noncomputable def qG:aA:=⟨[.val (.slice (.int .u32)),.val (.slice (.int .u32))],[.val (.slice (.int .u32))],fun x=>xK x.1 x.2.1⟩
noncomputable def Jy:Cx:=⟨Tryz.prog,[(150,kG)],[]⟩
theorem PL:∀ x,aV Jy FY none Tryz.f118 qG x=qG.m x:=by intro x;kernel_rfl
theorem JG:av Tryz.prog 118:=an (fn:=Tryz.f118) (by kernel_rfl) rfl (by decide)
theorem JH:aH Tryz.prog 118 qG:=aD (X:=Jy) (.cons zx zu (.nil _)) (by kernel_rfl) qG FY none (by kernel_rfl) (fun x y h=>(PL x).trans h)
def DG:List (Nat×Ann):=[(4,⟨[(2,.ref 2 0),(3,.ref 3 0),(4,.ref 4 0),(5,.ref 5 0),(6,.rowR 12),(7,.val (.slice (.int .u32))),(8,.val tI)],[(2,N8),(3,N8),(4,Kg),(5,Kg)],[.rowC 12 203 (.int .u32)],bp _⟩),
 (200004,⟨[(4,.ref 4 0),(5,.ref 5 0),(6,.rowR 12),(7,.val (.slice (.int .u32)))],[(4,Kg),(5,Kg)],[.rowC 12 203 (.int .u32)],fun _=>0⟩)]
noncomputable def rE:aA:=⟨[.val aX,.val aX],[.val aX,.val aX],fun x=>wY x.1 x.2.1⟩
noncomputable def Gf:Cx:=⟨Tryz.prog,[(115,ki),(116,wR),(117,mU),(118,qG),(150,kG)],[]⟩
theorem Nn:∀ x,aV Gf DG none Tryz.f82 rE x=rE.m x:=by intro x;kernel_rfl
theorem OE:av Tryz.prog 82:=an (fn:=Tryz.f82) (by kernel_rfl) rfl (by decide)
theorem OW:aH Tryz.prog 82 rE:=aD (X:=Gf) (.cons uI uF (.cons SQ Sv (.cons Fj E6 (.cons JH JG (.cons zx zu (.nil _)))))) (by kernel_rfl) rE DG none (by kernel_rfl) (fun x y h=>(Nn x).trans h)
def Bp:List (Nat×Ann):=[]
noncomputable def jx:aA:=⟨[.val aX],[.val tI],fun x=>kZ x.1⟩
noncomputable def DO:Cx:=⟨Tryz.prog,[],[]⟩
theorem KB:∀ x,aV DO Bp none Tryz.f41 jx x=jx.m x:=by intro x;kernel_rfl
theorem xZ:av Tryz.prog 41:=an (fn:=Tryz.f41) (by kernel_rfl) rfl (by decide)
theorem x8:aH Tryz.prog 41 jx:=aD (X:=DO) (.nil _) (by kernel_rfl) jx Bp none (by kernel_rfl) (fun x y h=>(KB x).trans h)
def Ay:List (Nat×Ann):=[]
noncomputable def kX:aA:=⟨[.val aX],[.val aX],fun x=>rG x.1⟩
noncomputable def CL:Cx:=⟨Tryz.prog,[(115,ki)],[]⟩
theorem JX:∀ x,aV CL Ay none Tryz.f81 kX x=kX.m x:=by intro x;kernel_rfl
theorem CS:av Tryz.prog 81:=an (fn:=Tryz.f81) (by kernel_rfl) rfl (by decide)
theorem C6:aH Tryz.prog 81 kX:=aD (X:=CL) (.cons uI uF (.nil _)) (by kernel_rfl) kX Ay none (by kernel_rfl) (fun x y h=>(JX x).trans h)
def Ct:List (Nat×Ann):=[(5,⟨[(1,.val tI),(2,.ref 2 0),(6,.val (.int .u64)),(14,.val (.slice (.int .u32))),(15,.val tI),(16,.val tI)],[(2,N8)],[],bp _⟩),
 (200005,⟨[(1,.val tI),(2,.ref 2 0),(6,.val (.int .u64))],[(2,N8)],[],fun _=>0⟩)]
noncomputable def qd:aA:=⟨[.val aX,.val tI],[.val tI,.val .bool],fun x=>zh x.1 x.2.1⟩
noncomputable def EO:Cx:=⟨Tryz.prog,[],[]⟩
theorem Mo:∀ x,aV EO Ct none Tryz.f121 qd x=qd.m x:=by intro x;kernel_rfl
theorem Nw:av Tryz.prog 121:=an (fn:=Tryz.f121) (by kernel_rfl) rfl (by decide)
theorem NK:aH Tryz.prog 121 qd:=aD (X:=EO) (.nil _) (by kernel_rfl) qd Ct none (by kernel_rfl) (fun x y h=>(Mo x).trans h)
end Go.Proofs.SeatA
