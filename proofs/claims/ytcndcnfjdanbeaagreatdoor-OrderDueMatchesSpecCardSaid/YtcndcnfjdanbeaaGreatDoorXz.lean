/-
  Each function that the law reaches is as its plain model says, third part. No condition.
-/
import Derived.Test.YtcndcnfjdanbeaaGreatDoorXy
set_option linter.all false
set_option maxRecDepth 100000
namespace Go.Proofs.SeatA
open Go.Dn Go.Md Go.Proofs
def J7:List CK:=[.val (.slice .str),.val .bool]
def NJ:List CK:=[.val .bool,.val .bool,.val .bool,.val .bool,.val .bool,.val .bool]
def acJ:List CK:=[.val .str,.val .str,.val .str,.val tI,.val tI,.val (.slice fm),.val (.slice ay),.mapR 28435,.rowR 28436,.rowR 28437,.val tI]
def acK:List CK:=[.val .str,.val .str,.val .str,.val tI,.val tI,.val (.slice fm),.val (.slice ay),.rowR 97555,.rowR 97556]
def acL:List CK:=[.val .str,.val .str,.val .str,.val tI,.val tI,.val (.slice fm)]
def acM:List CK:=[.val tI,.val .str,.val .str,.val tI,.val tI,.val tI,.val tI,.val tI,.val tI,.val tI,.val tI,.val tI,.val tI,.val tI,.val tI,.val tI]
def pS:List CK:=[.val tI,.val tI,.val tI,.val tI,.val tI,.val .str,.val tI,.val tI,.val .str,.val tI,.val tI,.val tI,.val tI]
def me:List (Nat×Ann):=[]
noncomputable def dW:az:=⟨[.val .str,.val .str],[.val .bool],fun x=>pZ x.1 x.2.1⟩
noncomputable def nF:Cx:=⟨Tryz.prog,[],[]⟩
theorem xB:∀ x,aM nF me none Tryz.f208 dW x=dW.m x:=by intro x;kernel_rfl
theorem xX:au Tryz.prog 208:=an (fn:=Tryz.f208) (by kernel_rfl) rfl (by decide)
theorem ya:aD Tryz.prog 208 dW:=aA (X:=nF) (.nil _) (by kernel_rfl) dW me none (by kernel_rfl) (fun x y h=>(xB x).trans h)
def l9:List (Nat×Ann):=[]
noncomputable def dU:az:=⟨[.val .str,.val .str],[.val .str,.val .bool],fun x=>pX x.1 x.2.1⟩
noncomputable def nD:Cx:=⟨Tryz.prog,[(208,dW)],[]⟩
theorem xz:∀ x,aM nD l9 none Tryz.f185 dU x=dU.m x:=by intro x;kernel_rfl
theorem xV:au Tryz.prog 185:=an (fn:=Tryz.f185) (by kernel_rfl) rfl (by decide)
theorem x8:aD Tryz.prog 185 dU:=aA (X:=nD) (.cons ya xX (.nil _)) (by kernel_rfl) dU l9 none (by kernel_rfl) (fun x y h=>(xz x).trans h)
def xJ:List (Nat×Ann):=[]
noncomputable def ki:az:=⟨[.val .str,.val .str],[.val .str,.val .bool],fun x=>E9 x.1 x.2.1⟩
noncomputable def Am:Cx:=⟨Tryz.prog,[(185,dU)],[]⟩
theorem Kr:∀ x,aM Am xJ none Tryz.f148 ki x=ki.m x:=by intro x;kernel_rfl
theorem LG:au Tryz.prog 148:=an (fn:=Tryz.f148) (by kernel_rfl) rfl (by decide)
theorem LX:aD Tryz.prog 148 ki:=aA (X:=Am) (.cons x8 xV (.nil _)) (by kernel_rfl) ki xJ none (by kernel_rfl) (fun x y h=>(Kr x).trans h)
def JI:List (Nat×Ann):=[]
noncomputable def vW:az:=⟨[.val .str],[.val (.slice .str),.val .bool],fun x=>Ww x.1⟩
noncomputable def NO:Cx:=⟨Tryz.prog,[(148,ki),(149,zn)],[]⟩
theorem WX:∀ x,aM NO JI none Tryz.f104 vW x=vW.m x:=by intro x;kernel_rfl
theorem Yv:au Tryz.prog 104:=an (fn:=Tryz.f104) (by kernel_rfl) rfl (by decide)
theorem YV:aD Tryz.prog 104 vW:=aA (X:=NO) (.cons LX LG (.cons GQ Gz (.nil _))) (by kernel_rfl) vW JI none (by kernel_rfl) (fun x y h=>(WX x).trans h)
def JJ:List (Nat×Ann):=[(3,⟨[(4,.rowR 27920),(9,.rowR 27920),(10,.val tI),(11,.val tI)],[],[.rowC 27920 9 .str],aS _⟩),
 (200003,⟨[(4,.rowR 27920)],[],[.rowC 27920 9 .str],fun _=>0⟩)]
noncomputable def vX:az:=⟨[.val .str],[.val (.slice .str),.val .bool],fun x=>Wx x.1⟩
noncomputable def NP:Cx:=⟨Tryz.prog,[(149,zn)],[]⟩
theorem WY:∀ x,aM NP JJ none Tryz.f150 vX x=vX.m x:=by intro x;kernel_rfl
theorem Yw:au Tryz.prog 150:=an (fn:=Tryz.f150) (by kernel_rfl) rfl (by decide)
theorem YW:aD Tryz.prog 150 vX:=aA (X:=NP) (.cons GQ Gz (.nil _)) (by kernel_rfl) vX JJ none (by kernel_rfl) (fun x y h=>(WY x).trans h)
def zD:List (Nat×Ann):=[]
noncomputable def fN:az:=⟨[.box [.val (.slice .str),.val .bool]],[.val .str],fun x=>kS x.1⟩
noncomputable def BD:Cx:=⟨Tryz.prog,[],[]⟩
theorem Lh:∀ x,aM BD zD none Tryz.f155 fN x=fN.m x:=by intro x;kernel_rfl
theorem oL:au Tryz.prog 155:=an (fn:=Tryz.f155) (by kernel_rfl) rfl (by decide)
theorem oM:aD Tryz.prog 155 fN:=aA (X:=BD) (.nil _) (by kernel_rfl) fN zD none (by kernel_rfl) (fun x y h=>(Lh x).trans h)
def xu:List (Nat×Ann):=[]
noncomputable def jz:az:=⟨[.box [.val (.slice .str),.val .bool]],[.val tI],fun x=>ju x.1⟩
noncomputable def zM:Cx:=⟨Tryz.prog,[(155,fN),(187,M8)],[]⟩
theorem IX:∀ x,aM zM xu none Tryz.f151 jz x=jz.m x:=by intro x;kernel_rfl
theorem KA:au Tryz.prog 151:=an (fn:=Tryz.f151) (by kernel_rfl) rfl (by decide)
theorem KI:aD Tryz.prog 151 jz:=aA (X:=zM) (.cons oM oL (.cons Xn Xh (.nil _))) (by kernel_rfl) jz xu none (by kernel_rfl) (fun x y h=>(IX x).trans h)
def Da:List (Nat×Ann):=[]
noncomputable def oz:az:=⟨[],[.val (.slice .str)],fun x=>MY ⟩
noncomputable def F7:Cx:=⟨Tryz.prog,[],[]⟩
theorem Qp:∀ x,aM F7 Da none Tryz.f153 oz x=oz.m x:=by intro x;kernel_rfl
theorem Se:au Tryz.prog 153:=an (fn:=Tryz.f153) (by kernel_rfl) rfl (by decide)
theorem Sp:aD Tryz.prog 153 oz:=aA (X:=F7) (.nil _) (by kernel_rfl) oz Da none (by kernel_rfl) (fun x y h=>(Qp x).trans h)
def vm:List (Nat×Ann):=[(2,⟨[(0,.val (.slice .str)),(1,.val .str),(7,.val tI),(8,.val tI)],[],[],aS _⟩),
 (200002,⟨[],[],[],fun _=>0⟩)]
noncomputable def iY:az:=⟨[.val (.slice .str),.val .str],[.val tI],fun x=>BQ x.1 x.2.1⟩
noncomputable def xS:Cx:=⟨Tryz.prog,[],[]⟩
theorem HH:∀ x,aM xS vm none Tryz.f188 iY x=iY.m x:=by intro x;kernel_rfl
theorem Jd:au Tryz.prog 188:=an (fn:=Tryz.f188) (by kernel_rfl) rfl (by decide)
theorem Jq:aD Tryz.prog 188 iY:=aA (X:=xS) (.nil _) (by kernel_rfl) iY vm none (by kernel_rfl) (fun x y h=>(HH x).trans h)
def xH:List (Nat×Ann):=[]
noncomputable def jZ:az:=⟨[.box [.val (.slice .str),.val .bool],.val (.slice .str)],[.val tI],fun x=>xE x.1 x.2.1⟩
noncomputable def Aj:Cx:=⟨Tryz.prog,[(155,fN),(188,iY)],[]⟩
theorem Ko:∀ x,aM Aj xH none Tryz.f152 jZ x=jZ.m x:=by intro x;kernel_rfl
theorem LB:au Tryz.prog 152:=an (fn:=Tryz.f152) (by kernel_rfl) rfl (by decide)
theorem LS:aD Tryz.prog 152 jZ:=aA (X:=Aj) (.cons oM oL (.cons Jq Jd (.nil _))) (by kernel_rfl) jZ xH none (by kernel_rfl) (fun x y h=>(Ko x).trans h)
def z8:List (Nat×Ann):=[]
noncomputable def lT:az:=⟨[],[.val (.slice .str)],fun x=>Is ⟩
noncomputable def Dp:Cx:=⟨Tryz.prog,[],[]⟩
theorem Nd:∀ x,aM Dp z8 none Tryz.f154 lT x=lT.m x:=by intro x;kernel_rfl
theorem Ou:au Tryz.prog 154:=an (fn:=Tryz.f154) (by kernel_rfl) rfl (by decide)
theorem OZ:aD Tryz.prog 154 lT:=aA (X:=Dp) (.nil _) (by kernel_rfl) lT z8 none (by kernel_rfl) (fun x y h=>(Nd x).trans h)
def mc:List (Nat×Ann):=[]
noncomputable def dV:az:=⟨[.val .str,.val .str],[.val .bool],fun x=>pY x.1 x.2.1⟩
noncomputable def nE:Cx:=⟨Tryz.prog,[],[]⟩
theorem xA:∀ x,aM nE mc none Tryz.f247 dV x=dV.m x:=by intro x;kernel_rfl
theorem xW:au Tryz.prog 247:=an (fn:=Tryz.f247) (by kernel_rfl) rfl (by decide)
theorem x9:aD Tryz.prog 247 dV:=aA (X:=nE) (.nil _) (by kernel_rfl) dV mc none (by kernel_rfl) (fun x y h=>(xA x).trans h)
def l8:List (Nat×Ann):=[]
noncomputable def dS:az:=⟨[.val .str,.val .str],[.val .str,.val .bool],fun x=>pW x.1 x.2.1⟩
noncomputable def nC:Cx:=⟨Tryz.prog,[(247,dV)],[]⟩
theorem xw:∀ x,aM nC l8 none Tryz.f232 dS x=dS.m x:=by intro x;kernel_rfl
theorem xU:au Tryz.prog 232:=an (fn:=Tryz.f232) (by kernel_rfl) rfl (by decide)
theorem x7:aD Tryz.prog 232 dS:=aA (X:=nC) (.cons x9 xW (.nil _)) (by kernel_rfl) dS l8 none (by kernel_rfl) (fun x y h=>(xw x).trans h)
def xI:List (Nat×Ann):=[]
noncomputable def kg:az:=⟨[.val .str,.val .str],[.val .str,.val .bool],fun x=>E8 x.1 x.2.1⟩
noncomputable def Al:Cx:=⟨Tryz.prog,[(232,dS)],[]⟩
theorem Kq:∀ x,aM Al xI none Tryz.f214 kg x=kg.m x:=by intro x;kernel_rfl
theorem LF:au Tryz.prog 214:=an (fn:=Tryz.f214) (by kernel_rfl) rfl (by decide)
theorem LW:aD Tryz.prog 214 kg:=aA (X:=Al) (.cons x7 xU (.nil _)) (by kernel_rfl) kg xI none (by kernel_rfl) (fun x y h=>(Kq x).trans h)
def oW:List (Nat×Ann):=[]
noncomputable def fM:az:=⟨[.val .str,.val .str],[.val tI],fun x=>tJ x.1 x.2.1⟩
noncomputable def qQ:Cx:=⟨Tryz.prog,[(238,iR)],[]⟩
theorem An:∀ x,aM qQ oW none Tryz.f228 fM x=fM.m x:=by intro x;kernel_rfl
theorem Bn:au Tryz.prog 228:=an (fn:=Tryz.f228) (by kernel_rfl) rfl (by decide)
theorem Bo:aD Tryz.prog 228 fM:=aA (X:=qQ) (.cons yb xY (.nil _)) (by kernel_rfl) fM oW none (by kernel_rfl) (fun x y h=>(An x).trans h)
def qO:List (Nat×Ann):=[]
noncomputable def fX:az:=⟨[.val .str,.val .str],[.val .str,.val .str,.val .bool],fun x=>vA x.1 x.2.1⟩
noncomputable def sC:Cx:=⟨Tryz.prog,[(228,fM)],[]⟩
theorem BY:∀ x,aM sC qO none Tryz.f233 fX x=fX.m x:=by intro x;kernel_rfl
theorem Dz:au Tryz.prog 233:=an (fn:=Tryz.f233) (by kernel_rfl) rfl (by decide)
theorem DK:aD Tryz.prog 233 fX:=aA (X:=sC) (.cons Bo Bn (.nil _)) (by kernel_rfl) fX qO none (by kernel_rfl) (fun x y h=>(BY x).trans h)
def FW:List (Nat×Ann):=[]
noncomputable def si:az:=⟨[.val .str,.val .str],[.val .str,.val .str,.val .bool],fun x=>RC x.1 x.2.1⟩
noncomputable def Kk:Cx:=⟨Tryz.prog,[(233,fX)],[]⟩
theorem Tp:∀ x,aM Kk FW none Tryz.f215 si x=si.m x:=by intro x;kernel_rfl
theorem Vi:au Tryz.prog 215:=an (fn:=Tryz.f215) (by kernel_rfl) rfl (by decide)
theorem Vz:aD Tryz.prog 215 si:=aA (X:=Kk) (.cons DK Dz (.nil _)) (by kernel_rfl) si FW none (by kernel_rfl) (fun x y h=>(Tp x).trans h)
def Bp:List (Nat×Ann):=[(300001,⟨[(2,.val .bool)],[],[],fun _=>0⟩)]
noncomputable def mX:az:=⟨[.val .str],[.val .bool],fun x=>JG x.1⟩
noncomputable def EM:Cx:=⟨Tryz.prog,[(212,mE)],[]⟩
theorem N9:∀ x,aM EM Bp none Tryz.f216 mX x=mX.m x:=by intro x;kernel_rfl
theorem Qx:au Tryz.prog 216:=an (fn:=Tryz.f216) (by kernel_rfl) rfl (by decide)
theorem QD:aD Tryz.prog 216 mX:=aA (X:=EM) (.cons AA Ig (.nil _)) (by kernel_rfl) mX Bp none (by kernel_rfl) (fun x y h=>(N9 x).trans h)
def FM:List (Nat×Ann):=[(3,⟨[(0,.val .bool),(1,.val .str),(2,.val .str),(6,.ref 6 0),(8,.ref 8 0),(14,.val tI),(15,.val tI)],[(6,[.val tI,.val tI]),(8,[.val .bool,.val (.slice (.int .u32))])],[],aS _⟩),
 (200003,⟨[(0,.val .bool),(2,.val .str),(6,.ref 6 0),(8,.ref 8 0)],[(6,[.val tI,.val tI]),(8,[.val .bool,.val (.slice (.int .u32))])],[],fun _=>0⟩)]
noncomputable def rW:az:=⟨[.val .bool,.val .str,.val .str],[.val ax,.val tI],fun x=>QL x.1 x.2.1 x.2.2.1⟩
noncomputable def Ka:Cx:=⟨Tryz.prog,[(85,qM),(86,lY),(89,ku),(90,jC),(91,nN),(92,ni)],[]⟩
theorem Tg:∀ x,aM Ka FM none Tryz.f217 rW x=rW.m x:=by intro x;kernel_rfl
theorem Vd:au Tryz.prog 217:=an (fn:=Tryz.f217) (by kernel_rfl) rfl (by decide)
theorem Vu:aD Tryz.prog 217 rW:=aA (X:=Ka) (.cons Jr Je (.cons Pc OA (.cons E7 EY (.cons DP DE (.cons KE Kw (.cons QI QC (.nil _))))))) (by kernel_rfl) rW FM none (by kernel_rfl) (fun x y h=>(Tg x).trans h)
def zZ:List (Nat×Ann):=[(300003,⟨[(40,.val .bool)],[],[],fun _=>0⟩)]
noncomputable def lR:az:=⟨[.val .str],[.val ax,.val tI],fun x=>HJ x.1⟩
noncomputable def Dk:Cx:=⟨Tryz.prog,[(212,mE),(214,kg),(215,si),(216,mX),(217,rW)],[]⟩
theorem Na:∀ x,aM Dk zZ none Tryz.f189 lR x=lR.m x:=by intro x;kernel_rfl
theorem Oq:au Tryz.prog 189:=an (fn:=Tryz.f189) (by kernel_rfl) rfl (by decide)
theorem OX:aD Tryz.prog 189 lR:=aA (X:=Dk) (.cons AA Ig (.cons LW LF (.cons Vz Vi (.cons QD Qx (.cons Vu Vd (.nil _)))))) (by kernel_rfl) lR zZ none (by kernel_rfl) (fun x y h=>(Na x).trans h)
def vl:List (Nat×Ann):=[]
noncomputable def iX:az:=⟨[.box [.val (.slice .str),.val .bool]],[.val ax],fun x=>uB x.1⟩
noncomputable def xR:Cx:=⟨Tryz.prog,[(155,fN),(189,lR)],[]⟩
theorem HG:∀ x,aM xR vl none Tryz.f156 iX x=iX.m x:=by intro x;kernel_rfl
theorem Jb:au Tryz.prog 156:=an (fn:=Tryz.f156) (by kernel_rfl) rfl (by decide)
theorem Jo:aD Tryz.prog 156 iX:=aA (X:=xR) (.cons oM oL (.cons OX Oq (.nil _))) (by kernel_rfl) iX vl none (by kernel_rfl) (fun x y h=>(HG x).trans h)
def Br:List (Nat×Ann):=[(100008,⟨[(2,.ref 2 0),(6,.ref 19 0),(7,.ref 7 0),(8,.ref 8 0)],[(2,pS),(7,pS),(8,NJ),(19,J7)],[],fun _=>0⟩),
 (100010,⟨[(2,.ref 2 0),(6,.ref 19 0),(7,.ref 7 0),(8,.ref 8 0)],[(2,pS),(7,pS),(8,NJ),(19,J7)],[],fun _=>0⟩),
 (100012,⟨[(2,.ref 2 0),(6,.ref 19 0),(7,.ref 7 0),(8,.ref 8 0)],[(2,pS),(7,pS),(8,NJ),(19,J7)],[],fun _=>0⟩),
 (100014,⟨[(2,.ref 2 0),(6,.ref 19 0),(7,.ref 7 0),(8,.ref 8 0)],[(2,pS),(7,pS),(8,NJ),(19,J7)],[],fun _=>0⟩),
 (100016,⟨[(2,.ref 2 0),(6,.ref 19 0),(7,.ref 7 0),(8,.ref 8 0)],[(2,pS),(7,pS),(8,NJ),(19,J7)],[],fun _=>0⟩),
 (100018,⟨[(2,.ref 2 0),(6,.ref 19 0),(7,.ref 7 0)],[(2,pS),(7,pS),(19,J7)],[],fun _=>0⟩)]
noncomputable def mZ:az:=⟨[.val .str],[.val ay,.val .bool],fun x=>KM x.1⟩
noncomputable def EO:Cx:=⟨Tryz.prog,[(62,jY),(150,vX),(151,jz),(152,jZ),(153,oz),(154,lT),(155,fN),(156,iX)],[]⟩
theorem Ob:∀ x,aM EO Br none Tryz.f105 mZ x=mZ.m x:=by intro x;kernel_rfl
theorem Qz:au Tryz.prog 105:=an (fn:=Tryz.f105) (by kernel_rfl) rfl (by decide)
theorem QF:aD Tryz.prog 105 mZ:=aA (X:=EO) (.cons AB Ar (.cons YW Yw (.cons KI KA (.cons LS LB (.cons Sp Se (.cons OZ Ou (.cons oM oL (.cons Jo Jb (.nil _))))))))) (by kernel_rfl) mZ Br none (by kernel_rfl) (fun x y h=>(Ob x).trans h)
def HL:List (Nat×Ann):=[(6,⟨[(5,.val (.slice .str)),(6,.val .bool),(7,.own 54 ay),(21,.val (.slice .str)),(22,.val tI),(23,.val tI)],[],[],aS _⟩),
 (200006,⟨[(7,.own 54 ay)],[],[],fun _=>0⟩),
 (300009,⟨[(45,.val .bool)],[],[],fun _=>0⟩)]
noncomputable def tU:az:=⟨[.val .str],[.row 54 ay,.val tI,.val tI],fun x=>Uk x.1⟩
noncomputable def MH:Cx:=⟨Tryz.prog,[(75,iG),(104,vW),(105,mZ)],[]⟩
theorem UX:∀ x,aM MH HL none Tryz.f50 tU x=tU.m x:=by intro x;kernel_rfl
theorem Xi:au Tryz.prog 50:=an (fn:=Tryz.f50) (by kernel_rfl) rfl (by decide)
theorem Xo:aD Tryz.prog 50 tU:=aA (X:=MH) (.cons BJ BG (.cons YV Yv (.cons QF Qz (.nil _)))) (by kernel_rfl) tU HL none (by kernel_rfl) (fun x y h=>(UX x).trans h)
def Mt:List (Nat×Ann):=[(300002,⟨[(0,.val .bool)],[],[],fun _=>0⟩)]
noncomputable def yp:az:=⟨[],[.val .bool],fun x=>Sk ⟩
noncomputable def QW:Cx:=⟨Tryz.prog,[(50,tU)],[]⟩
theorem X9:∀ x,aM QW Mt none Tryz.f16 yp x=yp.m x:=by intro x;kernel_rfl
theorem ZT:au Tryz.prog 16:=an (fn:=Tryz.f16) (by kernel_rfl) rfl (by decide)
theorem aaa:aD Tryz.prog 16 yp:=aA (X:=QW) (.cons Xo Xi (.nil _)) (by kernel_rfl) yp Mt none (by kernel_rfl) (fun x y h=>(X9 x).trans h)
end Go.Proofs.SeatA
set_option maxRecDepth 100000
namespace Go.Proofs.SeatA
open Go.Dn Go.Md Go.Proofs
def qP:List (Nat×Ann):=[]
noncomputable def eL:az:=⟨[.val .hnd,.val .hnd,.arR aB],[.val tI],fun x=>dZ x.1 x.2.1 x.2.2.1⟩
noncomputable def sD:Cx:=⟨Tryz.prog,[],[]⟩
theorem BZ:∀ x,aM sD qP none Tryz.f107 eL x=eL.m x:=by intro x;kernel_rfl
theorem sE:au Tryz.prog 107:=an (fn:=Tryz.f107) (by kernel_rfl) rfl (by decide)
theorem sF:aD Tryz.prog 107 eL:=aA (X:=sD) (.nil _) (by kernel_rfl) eL qP none (by kernel_rfl) (fun x y h=>(BZ x).trans h)
def iK:List (Nat×Ann):=[(1,⟨[(0,.rowR 10250000),(1,.val tI),(2,.val tI),(3,.val (.clo 107 .unit)),(8,.val tI)],[],[.rowC 10250000 68 .hnd,.arF aB],aS _⟩),
 (4,⟨[(0,.rowR 10250000),(1,.val tI),(2,.val tI),(3,.val (.clo 107 .unit)),(8,.val tI),(9,.val tI)],[],[.rowC 10250000 68 .hnd,.arF aB],aS _⟩),
 (200001,⟨[],[],[.rowC 10250000 68 .hnd,.arF aB],fun _=>0⟩),
 (200004,⟨[(0,.rowR 10250000),(1,.val tI),(2,.val tI),(3,.val (.clo 107 .unit)),(8,.val tI)],[],[.rowC 10250000 68 .hnd,.arF aB],fun _=>0⟩)]
noncomputable def cB:az:=⟨[.mrow 68 .hnd,.val tI,.val tI,.val (.clo 107 .unit),.arR aB],[],fun x=>cJ x.1 x.2.1 x.2.2.1 x.2.2.2.1 x.2.2.2.2.1⟩
noncomputable def jl:Cx:=⟨Tryz.prog,[(107,eL)],[]⟩
theorem qR:∀ x,aM jl iK none Tryz.f190 cB x=cB.m x:=by intro x;kernel_rfl
theorem ru:au Tryz.prog 190:=an (fn:=Tryz.f190) (by kernel_rfl) rfl (by decide)
theorem rG:aD Tryz.prog 190 cB:=aA (X:=jl) (.cons sF sE (.nil _)) (by kernel_rfl) cB iK none (by kernel_rfl) (fun x y h=>(qR x).trans h)
def jM:List (Nat×Ann):=[(1,⟨[(0,.rowR 10250000),(1,.val tI),(2,.val tI),(3,.val tI),(10,.val tI)],[],[.rowC 10250000 68 .hnd,.arF aB],aS _⟩),
 (200001,⟨[],[],[.rowC 10250000 68 .hnd,.arF aB],fun _=>0⟩)]
noncomputable def cQ:az:=⟨[.mrow 68 .hnd,.val tI,.val tI,.val tI,.val (.clo 107 .unit),.arR aB],[],fun x=>cF x.1 x.2.1 x.2.2.1 x.2.2.2.1 x.2.2.2.2.1 x.2.2.2.2.2.1⟩
noncomputable def kG:Cx:=⟨Tryz.prog,[],[]⟩
theorem tF:∀ x,aM kG jM none Tryz.f234 cQ x=cQ.m x:=by intro x;kernel_rfl
theorem uy:au Tryz.prog 234:=an (fn:=Tryz.f234) (by kernel_rfl) rfl (by decide)
theorem uz:aD Tryz.prog 234 cQ:=aA (X:=kG) (.nil _) (by kernel_rfl) cQ jM none (by kernel_rfl) (fun x y h=>(tF x).trans h)
def kY:List (Nat×Ann):=[(2,⟨[(0,.rowR 10250000),(2,.val tI),(4,.val (.clo 107 .unit)),(10,.val tI),(11,.val tI)],[],[.rowC 10250000 68 .hnd,.arF aB],aS _⟩),
 (200002,⟨[(0,.rowR 10250000),(2,.val tI),(4,.val (.clo 107 .unit)),(10,.val tI)],[],[.rowC 10250000 68 .hnd,.arF aB],fun _=>0⟩)]
noncomputable def dB:az:=⟨[.mrow 68 .hnd,.val tI,.val tI,.val tI,.val (.clo 107 .unit),.arR aB],[],fun x=>fZ x.1 x.2.1 x.2.2.1 x.2.2.2.1 x.2.2.2.2.1 x.2.2.2.2.2.1⟩
noncomputable def mg:Cx:=⟨Tryz.prog,[(234,cQ)],[]⟩
theorem vr:∀ x,aM mg kY none Tryz.f218 dB x=dB.m x:=by intro x;kernel_rfl
theorem wN:au Tryz.prog 218:=an (fn:=Tryz.f218) (by kernel_rfl) rfl (by decide)
theorem wT:aD Tryz.prog 218 dB:=aA (X:=mg) (.cons uz uy (.nil _)) (by kernel_rfl) dB kY none (by kernel_rfl) (fun x y h=>(vr x).trans h)
def kz:List (Nat×Ann):=[(3,⟨[(0,.rowR 10250000),(1,.val tI),(4,.val (.clo 107 .unit)),(10,.val tI),(11,.val tI)],[],[.rowC 10250000 68 .hnd,.arF aB],aS _⟩),
 (9,⟨[(0,.rowR 10250000),(10,.val tI),(13,.val tI)],[],[.rowC 10250000 68 .hnd,.arF aB],aS _⟩),
 (15,⟨[(0,.rowR 10250000),(2,.val tI),(4,.val (.clo 107 .unit)),(14,.val tI),(15,.val tI)],[],[.rowC 10250000 68 .hnd,.arF aB],aS _⟩),
 (21,⟨[(0,.rowR 10250000),(14,.val tI),(17,.val tI)],[],[.rowC 10250000 68 .hnd,.arF aB],aS _⟩),
 (33,⟨[(0,.rowR 10250000),(1,.val tI),(2,.val tI),(3,.val tI),(4,.val (.clo 107 .unit)),(18,.val tI),(19,.val tI),(20,.val tI),(21,.val tI),(22,.val tI)],[],[.rowC 10250000 68 .hnd,.arF aB],aS _⟩),
 (100030,⟨[(0,.rowR 10250000),(1,.val tI),(2,.val tI),(3,.val tI),(4,.val (.clo 107 .unit)),(18,.val tI),(19,.val tI),(20,.val tI),(21,.val tI)],[],[.rowC 10250000 68 .hnd,.arF aB],fun _=>0⟩),
 (100040,⟨[(0,.rowR 10250000),(1,.val tI),(3,.val tI),(4,.val (.clo 107 .unit)),(18,.val tI),(20,.val tI),(24,.val tI)],[],[.rowC 10250000 68 .hnd,.arF aB],fun _=>0⟩),
 (100042,⟨[(0,.rowR 10250000),(3,.val tI),(4,.val (.clo 107 .unit)),(18,.val tI),(24,.val tI)],[],[.rowC 10250000 68 .hnd,.arF aB],fun _=>0⟩),
 (200003,⟨[(0,.rowR 10250000),(1,.val tI),(10,.val tI)],[],[.rowC 10250000 68 .hnd,.arF aB],fun _=>0⟩),
 (200009,⟨[],[],[.rowC 10250000 68 .hnd,.arF aB],fun _=>0⟩),
 (200015,⟨[(0,.rowR 10250000),(2,.val tI),(14,.val tI)],[],[.rowC 10250000 68 .hnd,.arF aB],fun _=>0⟩),
 (200021,⟨[],[],[.rowC 10250000 68 .hnd,.arF aB],fun _=>0⟩),
 (200033,⟨[(0,.rowR 10250000),(1,.val tI),(2,.val tI),(3,.val tI),(4,.val (.clo 107 .unit)),(18,.val tI),(19,.val tI),(20,.val tI)],[],[.rowC 10250000 68 .hnd,.arF aB],fun _=>0⟩)]
def bJ:List PM:=[.mrow 68 .hnd,.val tI,.val tI,.val tI,.val (.clo 107 .unit),.arR aB]
def cw:List RM:=[]
noncomputable def kH:List (Nat×az):=[(107,eL),(218,dB)]
noncomputable def lf:az:=⟨bJ,cw,fun x=>dL x.1 x.2.1 x.2.2.1 x.2.2.2.1 x.2.2.2.2.1 x.2.2.2.2.2.1⟩
theorem ux:∀ (self:gi bJ→Option (dP bJ cw)) (x:gi bJ),aM ⟨Tryz.prog,(191,⟨bJ,cw,self⟩)::kH,[]⟩ kz none Tryz.f191 ⟨bJ,cw,fun x=>bY self x.1 x.2.1 x.2.2.1 x.2.2.2.1 x.2.2.2.2.1 x.2.2.2.2.2.1⟩ x=bY self x.1 x.2.1 x.2.2.1 x.2.2.2.1 x.2.2.2.2.1 x.2.2.2.2.2.1:=by intro self x;kernel_rfl
theorem k5:au Tryz.prog 191:=an (fn:=Tryz.f191) (by kernel_rfl) rfl (by decide)
theorem u9:aD Tryz.prog 191 lf:=ZQ (ps:=bJ) (rs:=cw) (m:=fun n x=>He (fun self x=>bY self x.1 x.2.1 x.2.2.1 x.2.2.2.1 x.2.2.2.2.1 x.2.2.2.2.2.1) n x) (TD (P:=Tryz.prog) (specs:=kH) (ps:=bJ) (rs:=cw) (.cons sF sE (.cons wT wN (.nil _))) (by kernel_rfl) (fun self x=>bY self x.1 x.2.1 x.2.2.1 x.2.2.2.1 x.2.2.2.2.1 x.2.2.2.2.2.1) kz none (by kernel_rfl) k5 ux) (fun x=>gh x.1 x.2.1 x.2.2.1 x.2.2.2.1 x.2.2.2.2.1 x.2.2.2.2.2.1)
def kZ:List (Nat×Ann):=[(2,⟨[(0,.rowR 10250000),(1,.val tI),(2,.val (.clo 107 .unit)),(6,.val tI),(7,.val tI),(8,.val tI)],[],[.rowC 10250000 68 .hnd,.arF aB],aS _⟩),
 (7,⟨[(0,.rowR 10250000),(1,.val tI),(2,.val (.clo 107 .unit)),(6,.val tI)],[],[.rowC 10250000 68 .hnd,.arF aB],aS _⟩),
 (9,⟨[(0,.rowR 10250000),(1,.val tI),(2,.val (.clo 107 .unit)),(6,.val tI),(7,.val tI),(8,.val tI)],[],[.rowC 10250000 68 .hnd,.arF aB],aS _⟩),
 (200002,⟨[(0,.rowR 10250000),(1,.val tI),(2,.val (.clo 107 .unit)),(6,.val tI),(7,.val tI)],[],[.rowC 10250000 68 .hnd,.arF aB],fun _=>0⟩),
 (200007,⟨[],[],[.rowC 10250000 68 .hnd,.arF aB],fun _=>0⟩),
 (200009,⟨[(0,.rowR 10250000),(1,.val tI),(2,.val (.clo 107 .unit)),(6,.val tI),(7,.val tI)],[],[.rowC 10250000 68 .hnd,.arF aB],fun _=>0⟩)]
noncomputable def dD:az:=⟨[.mrow 68 .hnd,.val tI,.val (.clo 107 .unit),.arR aB],[],fun x=>jg x.1 x.2.1 x.2.2.1 x.2.2.2.1⟩
noncomputable def mh:Cx:=⟨Tryz.prog,[(190,cB),(191,lf)],[]⟩
theorem vt:∀ x,aM mh kZ none Tryz.f157 dD x=dD.m x:=by intro x;kernel_rfl
theorem wO:au Tryz.prog 157:=an (fn:=Tryz.f157) (by kernel_rfl) rfl (by decide)
theorem wU:aD Tryz.prog 157 dD:=aA (X:=mh) (.cons rG ru (.cons u9 k5 (.nil _))) (by kernel_rfl) dD kZ none (by kernel_rfl) (fun x y h=>(vt x).trans h)
def kF:List (Nat×Ann):=[]
noncomputable def de:az:=⟨[.mrow 68 .hnd,.val (.clo 107 .unit),.arR aB],[],fun x=>dR x.1 x.2.1 x.2.2.1⟩
noncomputable def lF:Cx:=⟨Tryz.prog,[(157,dD)],[]⟩
theorem u5:∀ x,aM lF kF none Tryz.f106 de x=de.m x:=by intro x;kernel_rfl
theorem vz:au Tryz.prog 106:=an (fn:=Tryz.f106) (by kernel_rfl) rfl (by decide)
theorem vF:aD Tryz.prog 106 de:=aA (X:=lF) (.cons wU wO (.nil _)) (by kernel_rfl) de kF none (by kernel_rfl) (fun x y h=>(u5 x).trans h)
def sw:List (Nat×Ann):=[(3,⟨[(1,.val tI),(5,.own 68 .hnd),(9,.rowR 29968),(10,.val tI),(11,.val tI)],[(2000,acJ)],[.rowC 28436 133 ax,.rowC 28437 177 bZ,.rowC 29968 68 .hnd,.mapC 28435 tI .hnd,.ar aB],aS _⟩),
 (200003,⟨[(5,.own 68 .hnd)],[(2000,acJ)],[.rowC 28436 133 ax,.rowC 28437 177 bZ,.mapC 28435 tI .hnd,.ar aB],fun _=>0⟩),
 (300005,⟨[(25,.val .bool)],[],[],fun _=>0⟩)]
noncomputable def gD:az:=⟨[.box [.val bp,.val (.slice ay),.map tI .hnd,.row 133 ax,.row 177 bZ,.val tI],.val tI,.ar aB],[.row 68 .hnd],fun x=>lB x.1 x.2.1 x.2.2.1⟩
noncomputable def uI:Cx:=⟨Tryz.prog,[(31,ef),(43,fh),(106,de)],[]⟩
theorem Ei:∀ x,aM uI sw none Tryz.f51 gD x=gD.m x:=by intro x;kernel_rfl
theorem Fj:au Tryz.prog 51:=an (fn:=Tryz.f51) (by kernel_rfl) rfl (by decide)
theorem Fq:aD Tryz.prog 51 gD:=aA (X:=uI) (.cons nW nS (.cons lK lH (.cons vF vz (.nil _)))) (by kernel_rfl) gD sw none (by kernel_rfl) (fun x y h=>(Ei x).trans h)
def JK:List (Nat×Ann):=[(6,⟨[(10,.own 48 lE),(25,.rowR 62736),(26,.val tI),(27,.val tI)],[],[.rowC 62736 68 .hnd,.ar aB],aS _⟩),
 (200006,⟨[(10,.own 48 lE)],[],[.ar aB],fun _=>0⟩)]
noncomputable def vY:az:=⟨[.val bp,.val (.slice ay),.val tI],[.row 48 lE,.val tI],fun x=>Ir x.1 x.2.1 x.2.2.1⟩
noncomputable def NQ:Cx:=⟨Tryz.prog,[(30,mN),(30,qK),(43,fh),(51,gD),(52,pH)],[]⟩
theorem WZ:∀ x,aM NQ JK (some aB) Tryz.f17 vY x=vY.m x:=by intro x;kernel_rfl
theorem Yx:au Tryz.prog 17:=an (fn:=Tryz.f17) (by kernel_rfl) rfl (by decide)
theorem YX:aD Tryz.prog 17 vY:=aA (X:=NQ) (.cons Er Em (.cons Jj I6 (.cons lK lH (.cons Fq Fj (.cons MU MQ (.nil _)))))) (by kernel_rfl) vY JK (some aB) (by kernel_rfl) (fun x y h=>(WZ x).trans h)
def FT:List (Nat×Ann):=[(3,⟨[(1,.val tI),(5,.own 34 ck),(10,.rowR 32016),(11,.val tI),(12,.val tI)],[],[.rowC 32016 34 ck],aS _⟩),
 (7,⟨[(1,.val tI),(5,.own 34 ck),(7,.ref 7 0),(8,.val tI),(10,.rowR 32016),(11,.val tI),(12,.val tI)],[(7,acM)],[.rowC 32016 34 ck],aS _⟩),
 (200003,⟨[(5,.own 34 ck)],[],[],fun _=>0⟩),
 (200007,⟨[(1,.val tI),(5,.own 34 ck),(7,.ref 7 0),(8,.val tI),(10,.rowR 32016),(11,.val tI),(12,.val tI)],[(7,acM)],[.rowC 32016 34 ck],fun _=>0⟩),
 (300007,⟨[(40,.val .bool)],[],[],fun _=>0⟩)]
noncomputable def r0:az:=⟨[.val (.ptr fq),.val tI],[.row 34 ck],fun x=>CW x.1 x.2.1⟩
noncomputable def Kh:Cx:=⟨Tryz.prog,[(35,kr),(109,tV)],[]⟩
theorem Tm:∀ x,aM Kh FT none Tryz.f53 r0 x=r0.m x:=by intro x;kernel_rfl
theorem Vg:au Tryz.prog 53:=an (fn:=Tryz.f53) (by kernel_rfl) rfl (by decide)
theorem Vx:aD Tryz.prog 53 r0:=aA (X:=Kh) (.cons E6 EX (.cons Es En (.nil _))) (by kernel_rfl) r0 FT none (by kernel_rfl) (fun x y h=>(Tm x).trans h)
def QN:List (Nat×Ann):=[(6,⟨[(9,.own 48 lE),(24,.rowR 60688),(25,.val tI),(26,.val tI)],[],[.rowC 60688 34 ck],aS _⟩),
 (200006,⟨[(9,.own 48 lE)],[],[],fun _=>0⟩)]
noncomputable def D9:az:=⟨[.val bp,.val (.slice ay),.val tI],[.row 48 lE,.val tI],fun x=>Ut x.1 x.2.1 x.2.2.1⟩
noncomputable def Wg:Cx:=⟨Tryz.prog,[(33,lX),(34,sI),(53,r0)],[]⟩
theorem abp:∀ x,aM Wg QN none Tryz.f18 D9 x=D9.m x:=by intro x;kernel_rfl
theorem ac2:au Tryz.prog 18:=an (fn:=Tryz.f18) (by kernel_rfl) rfl (by decide)
theorem adw:aD Tryz.prog 18 D9:=aA (X:=Wg) (.cons AE Au (.cons Iq Ii (.cons Vx Vg (.nil _)))) (by kernel_rfl) D9 QN none (by kernel_rfl) (fun x y h=>(abp x).trans h)
def tE:List (Nat×Ann):=[(4,⟨[(0,.val (.slice lE)),(1,.val (.slice lE)),(12,.val tI),(13,.val tI)],[],[],aS _⟩),
 (200004,⟨[],[],[],fun _=>0⟩)]
noncomputable def gY:az:=⟨[.val (.slice lE),.val (.slice lE)],[.val .bool],fun x=>mD x.1 x.2.1⟩
noncomputable def vq:Cx:=⟨Tryz.prog,[],[]⟩
theorem Fg:∀ x,aM vq tE none Tryz.f19 gY x=gY.m x:=by intro x;kernel_rfl
theorem Gy:au Tryz.prog 19:=an (fn:=Tryz.f19) (by kernel_rfl) rfl (by decide)
theorem GP:aD Tryz.prog 19 gY:=aA (X:=vq) (.nil _) (by kernel_rfl) gY tE none (by kernel_rfl) (fun x y h=>(Fg x).trans h)
def EE:List (Nat×Ann):=[(6,⟨[(2,.val tI),(10,.own 3 tI),(24,.rowR 60688),(25,.val tI),(26,.val tI)],[],[.rowC 60688 68 .hnd,.ar aB],aS _⟩),
 (200006,⟨[(10,.own 3 tI)],[],[.ar aB],fun _=>0⟩),
 (300008,⟨[(40,.val .bool)],[],[],fun _=>0⟩)]
noncomputable def qq:az:=⟨[.val bp,.val (.slice ay),.val tI],[.row 3 tI,.val tI],fun x=>AI x.1 x.2.1 x.2.2.1⟩
noncomputable def HW:Cx:=⟨Tryz.prog,[(30,mN),(30,qK),(31,ef),(43,fh)],[]⟩
theorem RR:∀ x,aM HW EE (some aB) Tryz.f20 qq x=qq.m x:=by intro x;kernel_rfl
theorem TG:au Tryz.prog 20:=an (fn:=Tryz.f20) (by kernel_rfl) rfl (by decide)
theorem T9:aD Tryz.prog 20 qq:=aA (X:=HW) (.cons Er Em (.cons Jj I6 (.cons nW nS (.cons lK lH (.nil _))))) (by kernel_rfl) qq EE (some aB) (by kernel_rfl) (fun x y h=>(RR x).trans h)
def JQ:List (Nat×Ann):=[(6,⟨[(2,.val tI),(9,.own 3 tI),(23,.rowR 58640),(24,.val tI),(25,.val tI)],[],[.rowC 58640 34 ck],aS _⟩),
 (200006,⟨[(9,.own 3 tI)],[],[],fun _=>0⟩),
 (300008,⟨[(38,.val .bool)],[],[],fun _=>0⟩)]
noncomputable def wg:az:=⟨[.val bp,.val (.slice ay),.val tI],[.row 3 tI,.val tI],fun x=>Iy x.1 x.2.1 x.2.2.1⟩
noncomputable def NW:Cx:=⟨Tryz.prog,[(33,lX),(34,sI),(35,kr)],[]⟩
theorem Xb:∀ x,aM NW JQ none Tryz.f21 wg x=wg.m x:=by intro x;kernel_rfl
theorem YB:au Tryz.prog 21:=an (fn:=Tryz.f21) (by kernel_rfl) rfl (by decide)
theorem Y6:aD Tryz.prog 21 wg:=aA (X:=NW) (.cons AE Au (.cons Iq Ii (.cons E6 EX (.nil _)))) (by kernel_rfl) wg JQ none (by kernel_rfl) (fun x y h=>(Xb x).trans h)
def zF:List (Nat×Ann):=[(4,⟨[(0,.val (.slice tI)),(1,.val (.slice tI)),(12,.val tI),(13,.val tI)],[],[],aS _⟩),
 (200004,⟨[],[],[],fun _=>0⟩)]
noncomputable def kP:az:=⟨[.val (.slice tI),.val (.slice tI)],[.val .bool],fun x=>ox x.1 x.2.1⟩
noncomputable def BF:Cx:=⟨Tryz.prog,[],[]⟩
theorem Lj:∀ x,aM BF zF none Tryz.f22 kP x=kP.m x:=by intro x;kernel_rfl
theorem Np:au Tryz.prog 22:=an (fn:=Tryz.f22) (by kernel_rfl) rfl (by decide)
theorem Ns:aD Tryz.prog 22 kP:=aA (X:=BF) (.nil _) (by kernel_rfl) kP zF none (by kernel_rfl) (fun x y h=>(Lj x).trans h)
def FP:List (Nat×Ann):=[(6,⟨[(10,.own 3 tI),(24,.rowR 60688),(25,.val tI),(26,.val tI)],[],[.rowC 60688 68 .hnd,.ar aB],aS _⟩),
 (200006,⟨[(10,.own 3 tI)],[],[.ar aB],fun _=>0⟩)]
noncomputable def rY:az:=⟨[.val bp,.val (.slice ay),.val tI],[.val (.slice tI),.val tI],fun x=>CG x.1 x.2.1 x.2.2.1⟩
noncomputable def Ke:Cx:=⟨Tryz.prog,[(30,mN),(30,qK),(31,ef),(54,wj)],[]⟩
theorem Tj:∀ x,aM Ke FP (some aB) Tryz.f23 rY x=rY.m x:=by intro x;kernel_rfl
theorem Vf:au Tryz.prog 23:=an (fn:=Tryz.f23) (by kernel_rfl) rfl (by decide)
theorem Vw:aD Tryz.prog 23 rY:=aA (X:=Ke) (.cons Er Em (.cons Jj I6 (.cons nW nS (.cons DO DD (.nil _))))) (by kernel_rfl) rY FP (some aB) (by kernel_rfl) (fun x y h=>(Tj x).trans h)
def MB:List (Nat×Ann):=[(6,⟨[(9,.own 3 tI),(25,.rowR 56595),(26,.val tI),(27,.val tI)],[],[.rowC 56595 84 aQ],aS _⟩),
 (200006,⟨[(9,.own 3 tI)],[],[],fun _=>0⟩)]
noncomputable def yz:az:=⟨[.val bp,.val (.slice ay),.val tI],[.row 3 tI,.val tI],fun x=>Mf x.1 x.2.1 x.2.2.1⟩
noncomputable def Ra:Cx:=⟨Tryz.prog,[(33,lX),(34,sI),(54,wj)],[]⟩
theorem Yh:∀ x,aM Ra MB none Tryz.f24 yz x=yz.m x:=by intro x;kernel_rfl
theorem ZZ:au Tryz.prog 24:=an (fn:=Tryz.f24) (by kernel_rfl) rfl (by decide)
theorem aag:aD Tryz.prog 24 yz:=aA (X:=Ra) (.cons AE Au (.cons Iq Ii (.cons DO DD (.nil _)))) (by kernel_rfl) yz MB none (by kernel_rfl) (fun x y h=>(Yh x).trans h)
def Bq:List (Nat×Ann):=[(300001,⟨[(3,.val .bool)],[],[],fun _=>0⟩)]
noncomputable def mY:az:=⟨[.val ay,.val (.ptr tI)],[.val .bool],fun x=>wV x.1 x.2.1⟩
noncomputable def EN:Cx:=⟨Tryz.prog,[],[]⟩
theorem Oa:∀ x,aM EN Bq none Tryz.f60 mY x=mY.m x:=by intro x;kernel_rfl
theorem Qy:au Tryz.prog 60:=an (fn:=Tryz.f60) (by kernel_rfl) rfl (by decide)
theorem QE:aD Tryz.prog 60 mY:=aA (X:=EN) (.nil _) (by kernel_rfl) mY Bq none (by kernel_rfl) (fun x y h=>(Oa x).trans h)
def pO:List (Nat×Ann):=[(2,⟨[(0,.val (.slice ay)),(1,.val (.clo 60 (.ptr tI))),(7,.val tI),(8,.val tI)],[],[],aS _⟩),
 (200002,⟨[],[],[],fun _=>0⟩)]
noncomputable def fU:az:=⟨[.val (.slice ay),.val (.clo 60 (.ptr tI))],[.val tI],fun x=>jG x.1 x.2.1⟩
noncomputable def rf:Cx:=⟨Tryz.prog,[(60,mY)],[]⟩
theorem Bl:∀ x,aM rf pO none Tryz.f59 fU x=fU.m x:=by intro x;kernel_rfl
theorem B9:au Tryz.prog 59:=an (fn:=Tryz.f59) (by kernel_rfl) rfl (by decide)
theorem Ci:aD Tryz.prog 59 fU:=aA (X:=rf) (.cons QE Qy (.nil _)) (by kernel_rfl) fU pO none (by kernel_rfl) (fun x y h=>(Bl x).trans h)
def EF:List (Nat×Ann):=[(3,⟨[(1,.val tI),(5,.val tI),(8,.val (.slice ay)),(9,.val tI),(10,.val tI)],[],[],aS _⟩),
 (200003,⟨[(5,.val tI)],[],[],fun _=>0⟩)]
noncomputable def qs:az:=⟨[.val (.slice ay),.val tI],[.val tI],fun x=>AJ x.1 x.2.1⟩
noncomputable def HX:Cx:=⟨Tryz.prog,[],[]⟩
theorem RS:∀ x,aM HX EF none Tryz.f61 qs x=qs.m x:=by intro x;kernel_rfl
theorem TH:au Tryz.prog 61:=an (fn:=Tryz.f61) (by kernel_rfl) rfl (by decide)
theorem Ua:aD Tryz.prog 61 qs:=aA (X:=HX) (.nil _) (by kernel_rfl) qs EF none (by kernel_rfl) (fun x y h=>(RS x).trans h)
def ED:List (Nat×Ann):=[(300007,⟨[(41,.val .bool)],[],[],fun _=>0⟩),
 (300018,⟨[(16,.val .bool)],[],[],fun _=>0⟩)]
noncomputable def qp:az:=⟨[.val bp,.val (.slice ay),.val tI,.val tI],[.val ay,.val tI],fun x=>AF x.1 x.2.1 x.2.2.1 x.2.2.2.1⟩
noncomputable def HV:Cx:=⟨Tryz.prog,[(55,jh),(56,iS),(57,ga),(58,fT),(59,fU),(61,qs),(62,jY),(63,fS)],[]⟩
theorem RQ:∀ x,aM HV ED (some aB) Tryz.f25 qp x=qp.m x:=by intro x;kernel_rfl
theorem TF:au Tryz.prog 25:=an (fn:=Tryz.f25) (by kernel_rfl) rfl (by decide)
theorem T8:aD Tryz.prog 25 qp:=aA (X:=HV) (.cons zf za (.cons rD ri (.cons sX sV (.cons rE rj (.cons Ci B9 (.cons Ua TH (.cons AB Ar (.cons vD vu (.nil _))))))))) (by kernel_rfl) qp ED (some aB) (by kernel_rfl) (fun x y h=>(RQ x).trans h)
def tD:List (Nat×Ann):=[]
noncomputable def gX:az:=⟨[.val (.slice ay)],[.row 54 ay],fun x=>mC x.1⟩
noncomputable def vp:Cx:=⟨Tryz.prog,[],[]⟩
theorem Ff:∀ x,aM vp tD none Tryz.f65 gX x=gX.m x:=by intro x;kernel_rfl
theorem Gx:au Tryz.prog 65:=an (fn:=Tryz.f65) (by kernel_rfl) rfl (by decide)
theorem GO:aD Tryz.prog 65 gX:=aA (X:=vp) (.nil _) (by kernel_rfl) gX tD none (by kernel_rfl) (fun x y h=>(Ff x).trans h)
def JP:List (Nat×Ann):=[(9,⟨[(1,.val (.slice ay)),(2,.val tI),(3,.val tI),(4,.ref 4 0),(8,.ref 8 0),(11,.ref 42 0),(12,.val tI),(46,.rowR 97555),(47,.val tI),(48,.val tI)],[(4,acL),(8,pS),(42,acK)],[.rowC 97555 84 aQ,.rowC 97556 133 ax],aS _⟩),
 (200009,⟨[(1,.val (.slice ay)),(2,.val tI),(3,.val tI),(4,.ref 4 0),(8,.ref 8 0),(11,.ref 42 0),(12,.val tI)],[(4,acL),(8,pS),(42,acK)],[.rowC 97555 84 aQ,.rowC 97556 133 ax],fun _=>0⟩),
 (300004,⟨[(38,.val .bool)],[],[],fun _=>0⟩),
 (300011,⟨[(64,.val .bool)],[],[],fun _=>0⟩),
 (300020,⟨[(120,.val .bool)],[],[],fun _=>0⟩)]
noncomputable def we:az:=⟨[.val bp,.val (.slice ay),.val tI,.val tI],[.val ay,.val tI],fun x=>Iv x.1 x.2.1 x.2.2.1 x.2.2.2.1⟩
noncomputable def NV:Cx:=⟨Tryz.prog,[(33,lX),(34,sI),(64,se),(65,gX),(66,oD),(67,jB)],[]⟩
theorem Xa:∀ x,aM NV JP none Tryz.f26 we x=we.m x:=by intro x;kernel_rfl
theorem YA:au Tryz.prog 26:=an (fn:=Tryz.f26) (by kernel_rfl) rfl (by decide)
theorem Y5:aD Tryz.prog 26 we:=aA (X:=NV) (.cons AE Au (.cons Iq Ii (.cons Pb Oz (.cons GO Gx (.cons GN Gv (.cons DN DC (.nil _))))))) (by kernel_rfl) we JP none (by kernel_rfl) (fun x y h=>(Xa x).trans h)
def su:List (Nat×Ann):=[(300015,⟨[(8,.val .bool)],[],[],fun _=>0⟩)]
noncomputable def jH:az:=⟨[.val bp,.val (.slice ay),.val tI,.val tI],[.val .bool],fun x=>lz x.1 x.2.1 x.2.2.1 x.2.2.2.1⟩
noncomputable def uH:Cx:=⟨Tryz.prog,[(16,yp),(17,vY),(18,D9),(19,gY),(20,qq),(21,wg),(22,kP),(23,rY),(24,yz),(25,qp),(26,we)],[]⟩
theorem Eh:∀ x,aM uH su none Tryz.f4 jH x=jH.m x:=by intro x;kernel_rfl
theorem Fp:aD Tryz.prog 4 jH:=aA (X:=uH) (.cons aaa ZT (.cons YX Yx (.cons adw ac2 (.cons GP Gy (.cons T9 TG (.cons Y6 YB (.cons Ns Np (.cons Vw Vf (.cons aag ZZ (.cons T8 TF (.cons Y5 YA (.nil _)))))))))))) (by kernel_rfl) jH su none (by kernel_rfl) (fun x y h=>(Eh x).trans h)
end Go.Proofs.SeatA
