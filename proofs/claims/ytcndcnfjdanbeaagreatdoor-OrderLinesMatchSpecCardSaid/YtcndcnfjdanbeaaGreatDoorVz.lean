/-
  Each function that the law reaches is as its plain model says, third part. No condition.
-/
import Derived.Test.YtcndcnfjdanbeaaGreatDoorVy
set_option linter.all false
set_option maxRecDepth 100000
namespace Go.Proofs.SeatA
open Go.Dn Go.Md Go.Proofs
def H8:List CK:=[.val (.slice .str),.val .bool]
def vV:List CK:=[.val .bool,.own 3 tI]
def lC:List CK:=[.val .bool,.val (.slice tI)]
def Lt:List CK:=[.val .bool,.val .bool,.val .bool,.val .bool,.val .bool,.val .bool]
def rE:List CK:=[.val tI,.val tI,.val tI,.val tI,.val tI,.val .str,.val tI,.val tI,.val .str,.val tI,.val tI,.val tI,.val tI]
def zf:List CK:=[.val tI,.val tI]
def Lh:List (Nat×Ann):=[(4,⟨[(1,.ref 1 0),(2,.ref 2 0),(4,.ref 4 0),(5,.val tI),(6,.val tI)],[(1,lC),(2,vV),(4,[.val .bool,.rowR 11])],[.rowC 11 3 tI],aZ _⟩),
 (200004,⟨[(2,.ref 2 0),(4,.ref 4 0),(5,.val tI)],[(2,vV),(4,[.val .bool,.rowR 11])],[.rowC 11 3 tI],fun _=>0⟩)]
noncomputable def z7:az:=⟨[.val aP],[.val aP,.val tI],fun x=>XP x.1⟩
noncomputable def Qa:Cx:=⟨Tryz.prog,[(143,lu)],[]⟩
theorem Ww:∀ x,aL Qa Lh none Tryz.f144 z7 x=z7.m x:=by intro x;kernel_rfl
theorem Yg:av Tryz.prog 144:=aq (fn:=Tryz.f144) (by kernel_rfl) rfl (by decide)
theorem Yv:aC Tryz.prog 144 z7:=ax (X:=Qa) (.cons CJ CF (.nil _)) (by kernel_rfl) z7 Lh none (by kernel_rfl) (fun x y h=>(Ww x).trans h)
def HL:List (Nat×Ann):=[(3,⟨[(3,.ref 3 0),(4,.ref 4 0),(5,.ref 5 0),(6,.own 3 tI),(7,.ref 7 0)],[(3,lC),(4,vV),(5,vV),(7,lC)],[],fun x=>20*x.2.2.2.2.2.2.2.2.1.length+2⟩),
 (11,⟨[(3,.ref 3 0),(4,.ref 4 0),(5,.ref 5 0),(6,.own 3 tI),(10,.ref 10 0),(11,.ref 11 0),(12,.ref 12 0),(13,.val tI)],[(3,lC),(4,vV),(5,vV),(10,lC),(11,lC),(12,lC)],[],aZ _⟩),
 (200003,⟨[(3,.ref 3 0),(4,.ref 4 0),(5,.ref 5 0),(6,.own 3 tI)],[(3,lC),(4,vV),(5,vV)],[],fun _=>0⟩),
 (200011,⟨[(4,.ref 4 0),(5,.ref 5 0),(10,.ref 10 0),(11,.ref 11 0)],[(4,vV),(5,vV),(10,lC),(11,lC)],[],fun _=>0⟩)]
noncomputable def uB:az:=⟨[.val aP,.val aP],[.val aP,.val aP],fun x=>TB x.1 x.2.1⟩
noncomputable def LC:Cx:=⟨Tryz.prog,[(95,jg),(96,qY),(99,q7),(100,o8),(102,qZ),(123,yK),(144,z7)],[]⟩
theorem TW:∀ x,aL LC HL none Tryz.f97 uB x=uB.m x:=by intro x;kernel_rfl
theorem VA:av Tryz.prog 97:=aq (fn:=Tryz.f97) (by kernel_rfl) rfl (by decide)
theorem VX:aC Tryz.prog 97 uB:=ax (X:=LC) (.cons xz xp (.cons EU ED (.cons JP Jv (.cons Hp G6 (.cons JO Ju (.cons Tr Te (.cons Yv Yg (.nil _)))))))) (by kernel_rfl) uB HL none (by kernel_rfl) (fun x y h=>(TW x).trans h)
def Kn:List (Nat×Ann):=[(5,⟨[(2,.ref 2 0),(6,.val tI),(7,.val tI)],[(2,lC)],[],aZ _⟩),
 (200005,⟨[(2,.ref 2 0),(6,.val tI)],[(2,lC)],[],fun _=>0⟩)]
noncomputable def wV:az:=⟨[.val aP,.val tI],[.val tI,.val .bool],fun x=>J1 x.1 x.2.1⟩
noncomputable def N6:Cx:=⟨Tryz.prog,[(96,qY),(146,sD)],[]⟩
theorem Ve:∀ x,aL N6 Kn none Tryz.f145 wV x=wV.m x:=by intro x;kernel_rfl
theorem WH:av Tryz.prog 145:=aq (fn:=Tryz.f145) (by kernel_rfl) rfl (by decide)
theorem WT:aC Tryz.prog 145 wV:=ax (X:=N6) (.cons EU ED (.cons OA Ou (.nil _))) (by kernel_rfl) wV Kn none (by kernel_rfl) (fun x y h=>(Ve x).trans h)
def FP:List (Nat×Ann):=[]
noncomputable def nR:az:=⟨[.val aP,.val tI],[.val an,.val tI],fun x=>vl x.1 x.2.1⟩
noncomputable def KE:Cx:=⟨Tryz.prog,[(145,wV)],[]⟩
theorem RR:∀ x,aL KE FP none Tryz.f101 nR x=nR.m x:=by intro x;kernel_rfl
theorem KL:av Tryz.prog 101:=aq (fn:=Tryz.f101) (by kernel_rfl) rfl (by decide)
theorem KN:aC Tryz.prog 101 nR:=ax (X:=KE) (.cons WT WH (.nil _)) (by kernel_rfl) nR FP none (by kernel_rfl) (fun x y h=>(RR x).trans h)
def Ko:List (Nat×Ann):=[(100011,⟨[(4,.ref 4 0),(6,.ref 6 0),(9,.ref 9 0)],[(4,zf),(6,lC),(9,lC)],[],fun _=>0⟩)]
noncomputable def wW:az:=⟨[.val an,.val an],[.val an,.val tI],fun x=>J2 x.1 x.2.1⟩
noncomputable def N7:Cx:=⟨Tryz.prog,[(94,ez),(95,jg),(96,qY),(97,uB),(98,sC),(99,q7),(100,o8),(101,nR)],[]⟩
theorem Vf:∀ x,aL N7 Ko none Tryz.f47 wW x=wW.m x:=by intro x;kernel_rfl
theorem WI:av Tryz.prog 47:=aq (fn:=Tryz.f47) (by kernel_rfl) rfl (by decide)
theorem WU:aC Tryz.prog 47 wW:=ax (X:=N7) (.cons ox oa (.cons xz xp (.cons EU ED (.cons VX VA (.cons Oz Ot (.cons JP Jv (.cons Hp G6 (.cons KN KL (.nil _))))))))) (by kernel_rfl) wW Ko none (by kernel_rfl) (fun x y h=>(Vf x).trans h)
def NV:List (Nat×Ann):=[(5,⟨[(0,.val (.slice an)),(2,.ref 2 0),(4,.val tI),(14,.val (.slice an)),(15,.val tI),(16,.val tI)],[(2,zf)],[],aZ _⟩),
 (13,⟨[(2,.ref 2 0),(4,.val tI),(7,.ref 7 0),(29,.val (.slice an)),(30,.val tI),(31,.val tI)],[(2,zf),(7,lC)],[],aZ _⟩),
 (200005,⟨[(0,.val (.slice an)),(2,.ref 2 0),(4,.val tI)],[(2,zf)],[],fun _=>0⟩),
 (200013,⟨[(2,.ref 2 0),(4,.val tI),(7,.ref 7 0)],[(2,zf),(7,lC)],[],fun _=>0⟩)]
noncomputable def Cr:az:=⟨[.val (.slice an)],[.val an,.val tI],fun x=>Ri x.1⟩
noncomputable def S4:Cx:=⟨Tryz.prog,[(94,ez),(101,nR),(102,qZ),(103,A5)],[]⟩
theorem X7:∀ x,aL S4 NV none Tryz.f48 Cr x=Cr.m x:=by intro x;kernel_rfl
theorem Zo:av Tryz.prog 48:=aq (fn:=Tryz.f48) (by kernel_rfl) rfl (by decide)
theorem ZL:aC Tryz.prog 48 Cr:=ax (X:=S4) (.cons ox oa (.cons KN KL (.cons JO Ju (.cons VW Vz (.nil _))))) (by kernel_rfl) Cr NV none (by kernel_rfl) (fun x y h=>(X7 x).trans h)
def Ks:List (Nat×Ann):=[(6,⟨[(6,.ref 6 0),(9,.own 32 an),(28,.rowR 68880),(29,.val tI),(30,.val tI)],[(6,zf)],[.rowC 68880 34 b8],aZ _⟩),
 (200006,⟨[(6,.ref 6 0),(9,.own 32 an)],[(6,zf)],[],fun _=>0⟩)]
noncomputable def wZ:az:=⟨[.val bh,.val (.slice aD),.val tI],[.val an,.val tI],fun x=>J5 x.1 x.2.1 x.2.2.1⟩
noncomputable def Ob:Cx:=⟨Tryz.prog,[(33,mZ),(34,qE),(35,gm),(47,wW),(48,Cr),(49,iW)],[]⟩
theorem Vj:∀ x,aL Ob Ks none Tryz.f15 wZ x=wZ.m x:=by intro x;kernel_rfl
theorem WL:av Tryz.prog 15:=aq (fn:=Tryz.f15) (by kernel_rfl) rfl (by decide)
theorem WX:aC Tryz.prog 15 wZ:=ax (X:=Ob) (.cons EV EE (.cons Gt Gk (.cons vL vH (.cons WU WI (.cons ZL Zo (.cons tW tM (.nil _))))))) (by kernel_rfl) wZ Ks none (by kernel_rfl) (fun x y h=>(Vj x).trans h)
def kJ:List (Nat×Ann):=[]
noncomputable def de:az:=⟨[.val .str,.val .str],[.val .bool],fun x=>ot x.1 x.2.1⟩
noncomputable def mc:Cx:=⟨Tryz.prog,[],[]⟩
theorem vE:∀ x,aL mc kJ none Tryz.f208 de x=de.m x:=by intro x;kernel_rfl
theorem wu:av Tryz.prog 208:=aq (fn:=Tryz.f208) (by kernel_rfl) rfl (by decide)
theorem wG:aC Tryz.prog 208 de:=ax (X:=mc) (.nil _) (by kernel_rfl) de kJ none (by kernel_rfl) (fun x y h=>(vE x).trans h)
def kH:List (Nat×Ann):=[]
noncomputable def cZ:az:=⟨[.val .str,.val .str],[.val .str,.val .bool],fun x=>om x.1 x.2.1⟩
noncomputable def l8:Cx:=⟨Tryz.prog,[(208,de)],[]⟩
theorem vC:∀ x,aL l8 kH none Tryz.f185 cZ x=cZ.m x:=by intro x;kernel_rfl
theorem wo:av Tryz.prog 185:=aq (fn:=Tryz.f185) (by kernel_rfl) rfl (by decide)
theorem wE:aC Tryz.prog 185 cZ:=ax (X:=l8) (.cons wG wu (.nil _)) (by kernel_rfl) cZ kH none (by kernel_rfl) (fun x y h=>(vC x).trans h)
def vU:List (Nat×Ann):=[]
noncomputable def iY:az:=⟨[.val .str,.val .str],[.val .str,.val .bool],fun x=>Dh x.1 x.2.1⟩
noncomputable def zl:Cx:=⟨Tryz.prog,[(185,cZ)],[]⟩
theorem Iu:∀ x,aL zl vU none Tryz.f148 iY x=iY.m x:=by intro x;kernel_rfl
theorem Jz:av Tryz.prog 148:=aq (fn:=Tryz.f148) (by kernel_rfl) rfl (by decide)
theorem JT:aC Tryz.prog 148 iY:=ax (X:=zl) (.cons wE wo (.nil _)) (by kernel_rfl) iY vU none (by kernel_rfl) (fun x y h=>(Iu x).trans h)
def HJ:List (Nat×Ann):=[]
noncomputable def uz:az:=⟨[.val .str],[.val (.slice .str),.val .bool],fun x=>Tm x.1⟩
noncomputable def LA:Cx:=⟨Tryz.prog,[(148,iY),(149,x7)],[]⟩
theorem TU:∀ x,aL LA HJ none Tryz.f104 uz x=uz.m x:=by intro x;kernel_rfl
theorem Vx:av Tryz.prog 104:=aq (fn:=Tryz.f104) (by kernel_rfl) rfl (by decide)
theorem VU:aC Tryz.prog 104 uz:=ax (X:=LA) (.cons JT Jz (.cons EX EG (.nil _))) (by kernel_rfl) uz HJ none (by kernel_rfl) (fun x y h=>(TU x).trans h)
def HK:List (Nat×Ann):=[(3,⟨[(4,.rowR 27920),(9,.rowR 27920),(10,.val tI),(11,.val tI)],[],[.rowC 27920 9 .str],aZ _⟩),
 (200003,⟨[(4,.rowR 27920)],[],[.rowC 27920 9 .str],fun _=>0⟩)]
noncomputable def uA:az:=⟨[.val .str],[.val (.slice .str),.val .bool],fun x=>Tn x.1⟩
noncomputable def LB:Cx:=⟨Tryz.prog,[(149,x7)],[]⟩
theorem TV:∀ x,aL LB HK none Tryz.f150 uA x=uA.m x:=by intro x;kernel_rfl
theorem Vy:av Tryz.prog 150:=aq (fn:=Tryz.f150) (by kernel_rfl) rfl (by decide)
theorem VV:aC Tryz.prog 150 uA:=ax (X:=LB) (.cons EX EG (.nil _)) (by kernel_rfl) uA HK none (by kernel_rfl) (fun x y h=>(TV x).trans h)
def yj:List (Nat×Ann):=[]
noncomputable def dY:az:=⟨[.box [.val (.slice .str),.val .bool]],[.val .str],fun x=>jC x.1⟩
noncomputable def Ar:Cx:=⟨Tryz.prog,[],[]⟩
theorem Jh:∀ x,aL Ar yj none Tryz.f155 dY x=dY.m x:=by intro x;kernel_rfl
theorem nv:av Tryz.prog 155:=aq (fn:=Tryz.f155) (by kernel_rfl) rfl (by decide)
theorem ny:aC Tryz.prog 155 dY:=ax (X:=Ar) (.nil _) (by kernel_rfl) dY yj none (by kernel_rfl) (fun x y h=>(Jh x).trans h)
def vt:List (Nat×Ann):=[]
noncomputable def iw:az:=⟨[.box [.val (.slice .str),.val .bool]],[.val tI],fun x=>ic x.1⟩
noncomputable def yx:Cx:=⟨Tryz.prog,[(155,dY),(187,KT)],[]⟩
theorem GU:∀ x,aL yx vt none Tryz.f151 iw x=iw.m x:=by intro x;kernel_rfl
theorem IC:av Tryz.prog 151:=aq (fn:=Tryz.f151) (by kernel_rfl) rfl (by decide)
theorem IL:aC Tryz.prog 151 iw:=ax (X:=yx) (.cons ny nv (.cons Um Uc (.nil _))) (by kernel_rfl) iw vt none (by kernel_rfl) (fun x y h=>(GU x).trans h)
def BM:List (Nat×Ann):=[]
noncomputable def mV:az:=⟨[],[.val (.slice .str)],fun x=>KP ⟩
noncomputable def Eh:Cx:=⟨Tryz.prog,[],[]⟩
theorem Ny:∀ x,aL Eh BM none Tryz.f153 mV x=mV.m x:=by intro x;kernel_rfl
theorem Pf:av Tryz.prog 153:=aq (fn:=Tryz.f153) (by kernel_rfl) rfl (by decide)
theorem Pt:aC Tryz.prog 153 mV:=ax (X:=Eh) (.nil _) (by kernel_rfl) mV BM none (by kernel_rfl) (fun x y h=>(Ny x).trans h)
def tG:List (Nat×Ann):=[(2,⟨[(0,.val (.slice .str)),(1,.val .str),(7,.val tI),(8,.val tI)],[],[],aZ _⟩),
 (200002,⟨[],[],[],fun _=>0⟩)]
noncomputable def gL:az:=⟨[.val (.slice .str),.val .str],[.val tI],fun x=>AD x.1 x.2.1⟩
noncomputable def wk:Cx:=⟨Tryz.prog,[],[]⟩
theorem FD:∀ x,aL wk tG none Tryz.f188 gL x=gL.m x:=by intro x;kernel_rfl
theorem G8:av Tryz.prog 188:=aq (fn:=Tryz.f188) (by kernel_rfl) rfl (by decide)
theorem Hr:aC Tryz.prog 188 gL:=ax (X:=wk) (.nil _) (by kernel_rfl) gL tG none (by kernel_rfl) (fun x y h=>(FD x).trans h)
def vS:List (Nat×Ann):=[]
noncomputable def iV:az:=⟨[.box [.val (.slice .str),.val .bool],.val (.slice .str)],[.val tI],fun x=>vO x.1 x.2.1⟩
noncomputable def zi:Cx:=⟨Tryz.prog,[(155,dY),(188,gL)],[]⟩
theorem Ir:∀ x,aL zi vS none Tryz.f152 iV x=iV.m x:=by intro x;kernel_rfl
theorem Jt:av Tryz.prog 152:=aq (fn:=Tryz.f152) (by kernel_rfl) rfl (by decide)
theorem JN:aC Tryz.prog 152 iV:=ax (X:=zi) (.cons ny nv (.cons Hr G8 (.nil _))) (by kernel_rfl) iV vS none (by kernel_rfl) (fun x y h=>(Ir x).trans h)
def yV:List (Nat×Ann):=[]
noncomputable def ki:az:=⟨[],[.val (.slice .str)],fun x=>Gv ⟩
noncomputable def BY:Cx:=⟨Tryz.prog,[],[]⟩
theorem KZ:∀ x,aL BY yV none Tryz.f154 ki x=ki.m x:=by intro x;kernel_rfl
theorem L8:av Tryz.prog 154:=aq (fn:=Tryz.f154) (by kernel_rfl) rfl (by decide)
theorem Mz:aC Tryz.prog 154 ki:=ax (X:=BY) (.nil _) (by kernel_rfl) ki yV none (by kernel_rfl) (fun x y h=>(KZ x).trans h)
def kI:List (Nat×Ann):=[]
noncomputable def c9:az:=⟨[.val .str,.val .str],[.val .bool],fun x=>oo x.1 x.2.1⟩
noncomputable def l9:Cx:=⟨Tryz.prog,[],[]⟩
theorem vD:∀ x,aL l9 kI none Tryz.f247 c9 x=c9.m x:=by intro x;kernel_rfl
theorem wq:av Tryz.prog 247:=aq (fn:=Tryz.f247) (by kernel_rfl) rfl (by decide)
theorem wF:aC Tryz.prog 247 c9:=ax (X:=l9) (.nil _) (by kernel_rfl) c9 kI none (by kernel_rfl) (fun x y h=>(vD x).trans h)
def kG:List (Nat×Ann):=[]
noncomputable def cY:az:=⟨[.val .str,.val .str],[.val .str,.val .bool],fun x=>og x.1 x.2.1⟩
noncomputable def l7:Cx:=⟨Tryz.prog,[(247,c9)],[]⟩
theorem vB:∀ x,aL l7 kG none Tryz.f232 cY x=cY.m x:=by intro x;kernel_rfl
theorem wm:av Tryz.prog 232:=aq (fn:=Tryz.f232) (by kernel_rfl) rfl (by decide)
theorem wD:aC Tryz.prog 232 cY:=ax (X:=l7) (.cons wF wq (.nil _)) (by kernel_rfl) cY kG none (by kernel_rfl) (fun x y h=>(vB x).trans h)
def vT:List (Nat×Ann):=[]
noncomputable def iX:az:=⟨[.val .str,.val .str],[.val .str,.val .bool],fun x=>Df x.1 x.2.1⟩
noncomputable def zk:Cx:=⟨Tryz.prog,[(232,cY)],[]⟩
theorem It:∀ x,aL zk vT none Tryz.f214 iX x=iX.m x:=by intro x;kernel_rfl
theorem Jy:av Tryz.prog 214:=aq (fn:=Tryz.f214) (by kernel_rfl) rfl (by decide)
theorem JS:aC Tryz.prog 214 iX:=ax (X:=zk) (.cons wD wm (.nil _)) (by kernel_rfl) iX vT none (by kernel_rfl) (fun x y h=>(It x).trans h)
def nF:List (Nat×Ann):=[]
noncomputable def dW:az:=⟨[.val .str,.val .str],[.val tI],fun x=>rH x.1 x.2.1⟩
noncomputable def pg:Cx:=⟨Tryz.prog,[(238,gE)],[]⟩
theorem zm:∀ x,aL pg nF none Tryz.f228 dW x=dW.m x:=by intro x;kernel_rfl
theorem Ad:av Tryz.prog 228:=aq (fn:=Tryz.f228) (by kernel_rfl) rfl (by decide)
theorem Ae:aC Tryz.prog 228 dW:=ax (X:=pg) (.cons wH wz (.nil _)) (by kernel_rfl) dW nF none (by kernel_rfl) (fun x y h=>(zm x).trans h)
def pe:List (Nat×Ann):=[]
noncomputable def ew:az:=⟨[.val .str,.val .str],[.val .str,.val .str,.val .bool],fun x=>tO x.1 x.2.1⟩
noncomputable def qA:Cx:=⟨Tryz.prog,[(228,dW)],[]⟩
theorem AM:∀ x,aL qA pe none Tryz.f233 ew x=ew.m x:=by intro x;kernel_rfl
theorem B8:av Tryz.prog 233:=aq (fn:=Tryz.f233) (by kernel_rfl) rfl (by decide)
theorem Cf:aC Tryz.prog 233 ew:=ax (X:=qA) (.cons Ae Ad (.nil _)) (by kernel_rfl) ew pe none (by kernel_rfl) (fun x y h=>(AM x).trans h)
def D9:List (Nat×Ann):=[]
noncomputable def qn:az:=⟨[.val .str,.val .str],[.val .str,.val .str,.val .bool],fun x=>OK x.1 x.2.1⟩
noncomputable def Il:Cx:=⟨Tryz.prog,[(233,ew)],[]⟩
theorem Qp:∀ x,aL Il D9 none Tryz.f215 qn x=qn.m x:=by intro x;kernel_rfl
theorem R4:av Tryz.prog 215:=aq (fn:=Tryz.f215) (by kernel_rfl) rfl (by decide)
theorem Sk:aC Tryz.prog 215 qn:=ax (X:=Il) (.cons Cf B8 (.nil _)) (by kernel_rfl) qn D9 none (by kernel_rfl) (fun x y h=>(Qp x).trans h)
def Af:List (Nat×Ann):=[(300001,⟨[(2,.val .bool)],[],[],fun _=>0⟩)]
noncomputable def lJ:az:=⟨[.val .str],[.val .bool],fun x=>HH x.1⟩
noncomputable def C5:Cx:=⟨Tryz.prog,[(212,kU)],[]⟩
theorem LQ:∀ x,aL C5 Af none Tryz.f216 lJ x=lJ.m x:=by intro x;kernel_rfl
theorem NH:av Tryz.prog 216:=aq (fn:=Tryz.f216) (by kernel_rfl) rfl (by decide)
theorem NL:aC Tryz.prog 216 lJ:=ax (X:=C5) (.cons zB Gg (.nil _)) (by kernel_rfl) lJ Af none (by kernel_rfl) (fun x y h=>(LQ x).trans h)
def D1:List (Nat×Ann):=[(3,⟨[(0,.val .bool),(1,.val .str),(2,.val .str),(6,.ref 6 0),(8,.ref 8 0),(14,.val tI),(15,.val tI)],[(6,zf),(8,[.val .bool,.val (.slice (.int .u32))])],[],aZ _⟩),
 (200003,⟨[(0,.val .bool),(2,.val .str),(6,.ref 6 0),(8,.ref 8 0)],[(6,zf),(8,[.val .bool,.val (.slice (.int .u32))])],[],fun _=>0⟩)]
noncomputable def qd:az:=⟨[.val .bool,.val .str,.val .str],[.val an,.val tI],fun x=>NT x.1 x.2.1 x.2.2.1⟩
noncomputable def Ib:Cx:=⟨Tryz.prog,[(85,gM),(86,eA),(89,gp),(90,fM),(91,ij),(92,jc)],[]⟩
theorem Qh:∀ x,aL Ib D1 none Tryz.f217 qd x=qd.m x:=by intro x;kernel_rfl
theorem RZ:av Tryz.prog 217:=aq (fn:=Tryz.f217) (by kernel_rfl) rfl (by decide)
theorem Sg:aC Tryz.prog 217 qd:=ax (X:=Ib) (.cons oS oP (.cons oy oc (.cons vN vJ (.cons tX tN (.cons u9 uY (.cons De Dd (.nil _))))))) (by kernel_rfl) qd D1 none (by kernel_rfl) (fun x y h=>(Qh x).trans h)
def yS:List (Nat×Ann):=[(300003,⟨[(40,.val .bool)],[],[],fun _=>0⟩)]
noncomputable def ke:az:=⟨[.val .str],[.val an,.val tI],fun x=>FH x.1⟩
noncomputable def BV:Cx:=⟨Tryz.prog,[(212,kU),(214,iX),(215,qn),(216,lJ),(217,qd)],[]⟩
theorem KW:∀ x,aL BV yS none Tryz.f189 ke x=ke.m x:=by intro x;kernel_rfl
theorem L6:av Tryz.prog 189:=aq (fn:=Tryz.f189) (by kernel_rfl) rfl (by decide)
theorem Mx:aC Tryz.prog 189 ke:=ax (X:=BV) (.cons zB Gg (.cons JS Jy (.cons Sk R4 (.cons NL NH (.cons Sg RZ (.nil _)))))) (by kernel_rfl) ke yS none (by kernel_rfl) (fun x y h=>(KW x).trans h)
def tF:List (Nat×Ann):=[]
noncomputable def gJ:az:=⟨[.box [.val (.slice .str),.val .bool]],[.val an],fun x=>sJ x.1⟩
noncomputable def wj:Cx:=⟨Tryz.prog,[(155,dY),(189,ke)],[]⟩
theorem FC:∀ x,aL wj tF none Tryz.f156 gJ x=gJ.m x:=by intro x;kernel_rfl
theorem G5:av Tryz.prog 156:=aq (fn:=Tryz.f156) (by kernel_rfl) rfl (by decide)
theorem Ho:aC Tryz.prog 156 gJ:=ax (X:=wj) (.cons ny nv (.cons Mx L6 (.nil _))) (by kernel_rfl) gJ tF none (by kernel_rfl) (fun x y h=>(FC x).trans h)
def Ag:List (Nat×Ann):=[(100008,⟨[(2,.ref 2 0),(6,.ref 19 0),(7,.ref 7 0),(8,.ref 8 0)],[(2,rE),(7,rE),(8,Lt),(19,H8)],[],fun _=>0⟩),
 (100010,⟨[(2,.ref 2 0),(6,.ref 19 0),(7,.ref 7 0),(8,.ref 8 0)],[(2,rE),(7,rE),(8,Lt),(19,H8)],[],fun _=>0⟩),
 (100012,⟨[(2,.ref 2 0),(6,.ref 19 0),(7,.ref 7 0),(8,.ref 8 0)],[(2,rE),(7,rE),(8,Lt),(19,H8)],[],fun _=>0⟩),
 (100014,⟨[(2,.ref 2 0),(6,.ref 19 0),(7,.ref 7 0),(8,.ref 8 0)],[(2,rE),(7,rE),(8,Lt),(19,H8)],[],fun _=>0⟩),
 (100016,⟨[(2,.ref 2 0),(6,.ref 19 0),(7,.ref 7 0),(8,.ref 8 0)],[(2,rE),(7,rE),(8,Lt),(19,H8)],[],fun _=>0⟩),
 (100018,⟨[(2,.ref 2 0),(6,.ref 19 0),(7,.ref 7 0)],[(2,rE),(7,rE),(19,H8)],[],fun _=>0⟩)]
noncomputable def lK:az:=⟨[.val .str],[.val aD,.val .bool],fun x=>IS x.1⟩
noncomputable def C6:Cx:=⟨Tryz.prog,[(62,kV),(150,uA),(151,iw),(152,iV),(153,mV),(154,ki),(155,dY),(156,gJ)],[]⟩
theorem LR:∀ x,aL C6 Ag none Tryz.f105 lK x=lK.m x:=by intro x;kernel_rfl
theorem NI:av Tryz.prog 105:=aq (fn:=Tryz.f105) (by kernel_rfl) rfl (by decide)
theorem NM:aC Tryz.prog 105 lK:=ax (X:=C6) (.cons Gr Gi (.cons VV Vy (.cons IL IC (.cons JN Jt (.cons Pt Pf (.cons Mz L8 (.cons ny nv (.cons Ho G5 (.nil _))))))))) (by kernel_rfl) lK Ag none (by kernel_rfl) (fun x y h=>(LR x).trans h)
def FL:List (Nat×Ann):=[(6,⟨[(5,.val (.slice .str)),(6,.val .bool),(7,.own 54 aD),(21,.val (.slice .str)),(22,.val tI),(23,.val tI)],[],[],aZ _⟩),
 (200006,⟨[(7,.own 54 aD)],[],[],fun _=>0⟩),
 (300009,⟨[(45,.val .bool)],[],[],fun _=>0⟩)]
noncomputable def rV:az:=⟨[.val .str],[.row 54 aD,.val tI,.val tI],fun x=>Q7 x.1⟩
noncomputable def KA:Cx:=⟨Tryz.prog,[(75,gw),(104,uz),(105,lK)],[]⟩
theorem RN:∀ x,aL KA FL none Tryz.f50 rV x=rV.m x:=by intro x;kernel_rfl
theorem Ue:av Tryz.prog 50:=aq (fn:=Tryz.f50) (by kernel_rfl) rfl (by decide)
theorem Uo:aC Tryz.prog 50 rV:=ax (X:=KA) (.cons Ax Au (.cons VU Vx (.cons NM NI (.nil _)))) (by kernel_rfl) rV FL none (by kernel_rfl) (fun x y h=>(RN x).trans h)
def Ki:List (Nat×Ann):=[(300002,⟨[(0,.val .bool)],[],[],fun _=>0⟩)]
noncomputable def wU:az:=⟨[],[.val .bool],fun x=>Pn ⟩
noncomputable def N1:Cx:=⟨Tryz.prog,[(50,rV)],[]⟩
theorem U9:∀ x,aL N1 Ki none Tryz.f16 wU x=wU.m x:=by intro x;kernel_rfl
theorem WG:av Tryz.prog 16:=aq (fn:=Tryz.f16) (by kernel_rfl) rfl (by decide)
theorem WS:aC Tryz.prog 16 wU:=ax (X:=N1) (.cons Uo Ue (.nil _)) (by kernel_rfl) wU Ki none (by kernel_rfl) (fun x y h=>(U9 x).trans h)
def qw:List (Nat×Ann):=[(300015,⟨[(8,.val .bool)],[],[],fun _=>0⟩)]
noncomputable def iC:az:=⟨[.val bh,.val (.slice aD),.val tI,.val tI],[.val .bool],fun x=>jM x.1 x.2.1 x.2.2.1 x.2.2.2.1⟩
noncomputable def sR:Cx:=⟨Tryz.prog,[(7,mU),(8,rX),(9,fk),(10,oH),(11,uD),(12,rU),(13,z8),(14,qh),(15,wZ),(16,wU)],[]⟩
theorem CA:∀ x,aL sR qw none Tryz.f3 iC x=iC.m x:=by intro x;kernel_rfl
theorem Dx:aC Tryz.prog 3 iC:=ax (X:=sR) (.cons Pr Pe (.cons Uq Ug (.cons DA Du (.cons Q0 QE (.cons VZ VC (.cons Un Ud (.cons Yw Yh (.cons Si R2 (.cons WX WL (.cons WS WG (.nil _))))))))))) (by kernel_rfl) iC qw none (by kernel_rfl) (fun x y h=>(CA x).trans h)
end Go.Proofs.SeatA
