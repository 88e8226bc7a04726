/-
  Each function that the law reaches is as its plain model says, third part. No condition.
-/
import Derived.Test.YtcndcnfjdanbeaaGreatDoorXy
set_option linter.all false
set_option maxRecDepth 100000
namespace Go.Proofs.SeatA
open Go.Dn Go.Md Go.Proofs
def Jh:List CK:=[.val (.slice .str),.val .bool]
def MZ:List CK:=[.val .bool,.val .bool,.val .bool,.val .bool,.val .bool,.val .bool]
def ab1:List CK:=[.val .str,.val .str,.val .str,.val tI,.val tI,.val (.slice fo),.val (.slice aF),.mapR 28435,.rowR 28436,.rowR 28437,.val tI]
def ab2:List CK:=[.val .str,.val .str,.val .str,.val tI,.val tI,.val (.slice fo),.val (.slice aF),.mapR 62739,.rowR 62740,.rowR 62741,.val tI]
def R7:List CK:=[.val .str,.val .str,.val .str,.val tI,.val tI,.val (.slice fo)]
def R8:List CK:=[.val tI,.val .str,.val .str,.val tI,.val tI,.val tI,.val tI,.val tI,.val tI,.val tI,.val tI,.val tI,.val tI,.val tI,.val tI,.val tI]
def tq:List CK:=[.val tI,.val tI,.val tI,.val tI,.val tI,.val .str,.val tI,.val tI,.val .str,.val tI,.val tI,.val tI,.val tI]
def mo:List (Nat×Ann):=[]
noncomputable def ef:az:=⟨[.val .str,.val .str],[.val .bool],fun x=>pX x.1 x.2.1⟩
noncomputable def nN:Cx:=⟨Tryz.prog,[],[]⟩
theorem xo:∀ x,aQ nN mo none Tryz.f208 ef x=ef.m x:=by intro x;kernel_rfl
theorem xR:au Tryz.prog 208:=aq (fn:=Tryz.f208) (by kernel_rfl) rfl (by decide)
theorem xX:aE Tryz.prog 208 ef:=aB (X:=nN) (.nil _) (by kernel_rfl) ef mo none (by kernel_rfl) (fun x y h=>(xo x).trans h)
def mj:List (Nat×Ann):=[]
noncomputable def dY:az:=⟨[.val .str,.val .str],[.val .str,.val .bool],fun x=>pV x.1 x.2.1⟩
noncomputable def nL:Cx:=⟨Tryz.prog,[(208,ef)],[]⟩
theorem xk:∀ x,aQ nL mj none Tryz.f185 dY x=dY.m x:=by intro x;kernel_rfl
theorem xP:au Tryz.prog 185:=aq (fn:=Tryz.f185) (by kernel_rfl) rfl (by decide)
theorem xV:aE Tryz.prog 185 dY:=aB (X:=nL) (.cons xX xR (.nil _)) (by kernel_rfl) dY mj none (by kernel_rfl) (fun x y h=>(xk x).trans h)
def xC:List (Nat×Ann):=[]
noncomputable def kg:az:=⟨[.val .str,.val .str],[.val .str,.val .bool],fun x=>Er x.1 x.2.1⟩
noncomputable def Ak:Cx:=⟨Tryz.prog,[(185,dY)],[]⟩
theorem Jz:∀ x,aQ Ak xC none Tryz.f148 kg x=kg.m x:=by intro x;kernel_rfl
theorem KN:au Tryz.prog 148:=aq (fn:=Tryz.f148) (by kernel_rfl) rfl (by decide)
theorem La:aE Tryz.prog 148 kg:=aB (X:=Ak) (.cons xV xP (.nil _)) (by kernel_rfl) kg xC none (by kernel_rfl) (fun x y h=>(Jz x).trans h)
def IV:List (Nat×Ann):=[]
noncomputable def vV:az:=⟨[.val .str],[.val (.slice .str),.val .bool],fun x=>Vt x.1⟩
noncomputable def Na:Cx:=⟨Tryz.prog,[(148,kg),(149,zj)],[]⟩
theorem VV:∀ x,aQ Na IV none Tryz.f104 vV x=vV.m x:=by intro x;kernel_rfl
theorem Xz:au Tryz.prog 104:=aq (fn:=Tryz.f104) (by kernel_rfl) rfl (by decide)
theorem Ya:aE Tryz.prog 104 vV:=aB (X:=Na) (.cons La KN (.cons Gi FU (.nil _))) (by kernel_rfl) vV IV none (by kernel_rfl) (fun x y h=>(VV x).trans h)
def IW:List (Nat×Ann):=[(3,⟨[(4,.rowR 27920),(9,.rowR 27920),(10,.val tI),(11,.val tI)],[],[.rowC 27920 9 .str],aV _⟩),
 (200003,⟨[(4,.rowR 27920)],[],[.rowC 27920 9 .str],fun _=>0⟩)]
noncomputable def vW:az:=⟨[.val .str],[.val (.slice .str),.val .bool],fun x=>Vu x.1⟩
noncomputable def Nb:Cx:=⟨Tryz.prog,[(149,zj)],[]⟩
theorem VW:∀ x,aQ Nb IW none Tryz.f150 vW x=vW.m x:=by intro x;kernel_rfl
theorem XA:au Tryz.prog 150:=aq (fn:=Tryz.f150) (by kernel_rfl) rfl (by decide)
theorem Yb:aE Tryz.prog 150 vW:=aB (X:=Nb) (.cons Gi FU (.nil _)) (by kernel_rfl) vW IW none (by kernel_rfl) (fun x y h=>(VW x).trans h)
def zA:List (Nat×Ann):=[]
noncomputable def fS:az:=⟨[.box [.val (.slice .str),.val .bool]],[.val .str],fun x=>kW x.1⟩
noncomputable def Br:Cx:=⟨Tryz.prog,[],[]⟩
theorem Kt:∀ x,aQ Br zA none Tryz.f155 fS x=fS.m x:=by intro x;kernel_rfl
theorem oO:au Tryz.prog 155:=aq (fn:=Tryz.f155) (by kernel_rfl) rfl (by decide)
theorem oQ:aE Tryz.prog 155 fS:=aB (X:=Br) (.nil _) (by kernel_rfl) fS zA none (by kernel_rfl) (fun x y h=>(Kt x).trans h)
def xg:List (Nat×Ann):=[]
noncomputable def jy:az:=⟨[.box [.val (.slice .str),.val .bool]],[.val tI],fun x=>jt x.1⟩
noncomputable def zI:Cx:=⟨Tryz.prog,[(155,fS),(187,Mn)],[]⟩
theorem Ia:∀ x,aQ zI xg none Tryz.f151 jy x=jy.m x:=by intro x;kernel_rfl
theorem JJ:au Tryz.prog 151:=aq (fn:=Tryz.f151) (by kernel_rfl) rfl (by decide)
theorem JS:aE Tryz.prog 151 jy:=aB (X:=zI) (.cons oQ oO (.cons Wk Wc (.nil _))) (by kernel_rfl) jy xg none (by kernel_rfl) (fun x y h=>(Ia x).trans h)
def CJ:List (Nat×Ann):=[]
noncomputable def oE:az:=⟨[],[.val (.slice .str)],fun x=>Mk ⟩
noncomputable def Fw:Cx:=⟨Tryz.prog,[],[]⟩
theorem Pv:∀ x,aQ Fw CJ none Tryz.f153 oE x=oE.m x:=by intro x;kernel_rfl
theorem Re:au Tryz.prog 153:=aq (fn:=Tryz.f153) (by kernel_rfl) rfl (by decide)
theorem Rn:aE Tryz.prog 153 oE:=aB (X:=Fw) (.nil _) (by kernel_rfl) oE CJ none (by kernel_rfl) (fun x y h=>(Pv x).trans h)
def vl:List (Nat×Ann):=[(2,⟨[(0,.val (.slice .str)),(1,.val .str),(7,.val tI),(8,.val tI)],[],[],aV _⟩),
 (200002,⟨[],[],[],fun _=>0⟩)]
noncomputable def iZ:az:=⟨[.val (.slice .str),.val .str],[.val tI],fun x=>BB x.1 x.2.1⟩
noncomputable def xL:Cx:=⟨Tryz.prog,[],[]⟩
theorem GV:∀ x,aQ xL vl none Tryz.f188 iZ x=iZ.m x:=by intro x;kernel_rfl
theorem Im:au Tryz.prog 188:=aq (fn:=Tryz.f188) (by kernel_rfl) rfl (by decide)
theorem IB:aE Tryz.prog 188 iZ:=aB (X:=xL) (.nil _) (by kernel_rfl) iZ vl none (by kernel_rfl) (fun x y h=>(GV x).trans h)
def xA:List (Nat×Ann):=[]
noncomputable def jX:az:=⟨[.box [.val (.slice .str),.val .bool],.val (.slice .str)],[.val tI],fun x=>xu x.1 x.2.1⟩
noncomputable def Ah:Cx:=⟨Tryz.prog,[(155,fS),(188,iZ)],[]⟩
theorem Jw:∀ x,aQ Ah xA none Tryz.f152 jX x=jX.m x:=by intro x;kernel_rfl
theorem KJ:au Tryz.prog 152:=aq (fn:=Tryz.f152) (by kernel_rfl) rfl (by decide)
theorem K6:aE Tryz.prog 152 jX:=aB (X:=Ah) (.cons oQ oO (.cons IB Im (.nil _))) (by kernel_rfl) jX xA none (by kernel_rfl) (fun x y h=>(Jw x).trans h)
def z6:List (Nat×Ann):=[]
noncomputable def l6:az:=⟨[],[.val (.slice .str)],fun x=>HJ ⟩
noncomputable def CY:Cx:=⟨Tryz.prog,[],[]⟩
theorem Mt:∀ x,aQ CY z6 none Tryz.f154 l6 x=l6.m x:=by intro x;kernel_rfl
theorem NH:au Tryz.prog 154:=aq (fn:=Tryz.f154) (by kernel_rfl) rfl (by decide)
theorem Od:aE Tryz.prog 154 l6:=aB (X:=CY) (.nil _) (by kernel_rfl) l6 z6 none (by kernel_rfl) (fun x y h=>(Mt x).trans h)
def mm:List (Nat×Ann):=[]
noncomputable def dZ:az:=⟨[.val .str,.val .str],[.val .bool],fun x=>pW x.1 x.2.1⟩
noncomputable def nM:Cx:=⟨Tryz.prog,[],[]⟩
theorem xm:∀ x,aQ nM mm none Tryz.f247 dZ x=dZ.m x:=by intro x;kernel_rfl
theorem xQ:au Tryz.prog 247:=aq (fn:=Tryz.f247) (by kernel_rfl) rfl (by decide)
theorem xW:aE Tryz.prog 247 dZ:=aB (X:=nM) (.nil _) (by kernel_rfl) dZ mm none (by kernel_rfl) (fun x y h=>(xm x).trans h)
def mh:List (Nat×Ann):=[]
noncomputable def dX:az:=⟨[.val .str,.val .str],[.val .str,.val .bool],fun x=>pU x.1 x.2.1⟩
noncomputable def nK:Cx:=⟨Tryz.prog,[(247,dZ)],[]⟩
theorem xj:∀ x,aQ nK mh none Tryz.f232 dX x=dX.m x:=by intro x;kernel_rfl
theorem xO:au Tryz.prog 232:=aq (fn:=Tryz.f232) (by kernel_rfl) rfl (by decide)
theorem xU:aE Tryz.prog 232 dX:=aB (X:=nK) (.cons xW xQ (.nil _)) (by kernel_rfl) dX mh none (by kernel_rfl) (fun x y h=>(xj x).trans h)
def xB:List (Nat×Ann):=[]
noncomputable def ke:az:=⟨[.val .str,.val .str],[.val .str,.val .bool],fun x=>Ep x.1 x.2.1⟩
noncomputable def Aj:Cx:=⟨Tryz.prog,[(232,dX)],[]⟩
theorem Jy:∀ x,aQ Aj xB none Tryz.f214 ke x=ke.m x:=by intro x;kernel_rfl
theorem KM:au Tryz.prog 214:=aq (fn:=Tryz.f214) (by kernel_rfl) rfl (by decide)
theorem K9:aE Tryz.prog 214 ke:=aB (X:=Aj) (.cons xU xO (.nil _)) (by kernel_rfl) ke xB none (by kernel_rfl) (fun x y h=>(Jy x).trans h)
def oX:List (Nat×Ann):=[]
noncomputable def fR:az:=⟨[.val .str,.val .str],[.val tI],fun x=>tw x.1 x.2.1⟩
noncomputable def qO:Cx:=⟨Tryz.prog,[(238,iT)],[]⟩
theorem Am:∀ x,aQ qO oX none Tryz.f228 fR x=fR.m x:=by intro x;kernel_rfl
theorem Ba:au Tryz.prog 228:=aq (fn:=Tryz.f228) (by kernel_rfl) rfl (by decide)
theorem Bb:aE Tryz.prog 228 fR:=aB (X:=qO) (.cons xY xS (.nil _)) (by kernel_rfl) fR oX none (by kernel_rfl) (fun x y h=>(Am x).trans h)
def qM:List (Nat×Ann):=[]
noncomputable def ga:az:=⟨[.val .str,.val .str],[.val .str,.val .str,.val .bool],fun x=>vz x.1 x.2.1⟩
noncomputable def sd:Cx:=⟨Tryz.prog,[(228,fR)],[]⟩
theorem BI:∀ x,aQ sd qM none Tryz.f233 ga x=ga.m x:=by intro x;kernel_rfl
theorem De:au Tryz.prog 233:=aq (fn:=Tryz.f233) (by kernel_rfl) rfl (by decide)
theorem Dq:aE Tryz.prog 233 ga:=aB (X:=sd) (.cons Bb Ba (.nil _)) (by kernel_rfl) ga qM none (by kernel_rfl) (fun x y h=>(BI x).trans h)
def Fq:List (Nat×Ann):=[]
noncomputable def rR:az:=⟨[.val .str,.val .str],[.val .str,.val .str,.val .bool],fun x=>QD x.1 x.2.1⟩
noncomputable def Js:Cx:=⟨Tryz.prog,[(233,ga)],[]⟩
theorem Ss:∀ x,aQ Js Fq none Tryz.f215 rR x=rR.m x:=by intro x;kernel_rfl
theorem Ui:au Tryz.prog 215:=aq (fn:=Tryz.f215) (by kernel_rfl) rfl (by decide)
theorem Uz:aE Tryz.prog 215 rR:=aB (X:=Js) (.cons Dq De (.nil _)) (by kernel_rfl) rR Fq none (by kernel_rfl) (fun x y h=>(Ss x).trans h)
def Bc:List (Nat×Ann):=[(300001,⟨[(2,.val .bool)],[],[],fun _=>0⟩)]
noncomputable def nk:az:=⟨[.val .str],[.val .bool],fun x=>IT x.1⟩
noncomputable def Ed:Cx:=⟨Tryz.prog,[(212,mK)],[]⟩
theorem Np:∀ x,aQ Ed Bc none Tryz.f216 nk x=nk.m x:=by intro x;kernel_rfl
theorem PD:au Tryz.prog 216:=aq (fn:=Tryz.f216) (by kernel_rfl) rfl (by decide)
theorem PK:aE Tryz.prog 216 nk:=aB (X:=Ed) (.cons Az Hy (.nil _)) (by kernel_rfl) nk Bc none (by kernel_rfl) (fun x y h=>(Np x).trans h)
def Fh:List (Nat×Ann):=[(3,⟨[(0,.val .bool),(1,.val .str),(2,.val .str),(6,.ref 6 0),(8,.ref 8 0),(14,.val tI),(15,.val tI)],[(6,[.val tI,.val tI]),(8,[.val .bool,.val (.slice (.int .u32))])],[],aV _⟩),
 (200003,⟨[(0,.val .bool),(2,.val .str),(6,.ref 6 0),(8,.ref 8 0)],[(6,[.val tI,.val tI]),(8,[.val .bool,.val (.slice (.int .u32))])],[],fun _=>0⟩)]
noncomputable def rL:az:=⟨[.val .bool,.val .str,.val .str],[.val ax,.val tI],fun x=>PU x.1 x.2.1 x.2.2.1⟩
noncomputable def Jk:Cx:=⟨Tryz.prog,[(85,qK),(86,me),(89,ku),(90,jA),(91,nU),(92,nv)],[]⟩
theorem Si:∀ x,aQ Jk Fh none Tryz.f217 rL x=rL.m x:=by intro x;kernel_rfl
theorem Ue:au Tryz.prog 217:=aq (fn:=Tryz.f217) (by kernel_rfl) rfl (by decide)
theorem Uv:aE Tryz.prog 217 rL:=aB (X:=Jk) (.cons IC Io (.cons Oj NN (.cons Eo Em (.cons Dt Di (.cons JO JF (.cons PS PJ (.nil _))))))) (by kernel_rfl) rL Fh none (by kernel_rfl) (fun x y h=>(Si x).trans h)
def zX:List (Nat×Ann):=[(300003,⟨[(40,.val .bool)],[],[],fun _=>0⟩)]
noncomputable def lY:az:=⟨[.val .str],[.val ax,.val tI],fun x=>GX x.1⟩
noncomputable def CU:Cx:=⟨Tryz.prog,[(212,mK),(214,ke),(215,rR),(216,nk),(217,rL)],[]⟩
theorem Mp:∀ x,aQ CU zX none Tryz.f189 lY x=lY.m x:=by intro x;kernel_rfl
theorem NF:au Tryz.prog 189:=aq (fn:=Tryz.f189) (by kernel_rfl) rfl (by decide)
theorem Ob:aE Tryz.prog 189 lY:=aB (X:=CU) (.cons Az Hy (.cons K9 KM (.cons Uz Ui (.cons PK PD (.cons Uv Ue (.nil _)))))) (by kernel_rfl) lY zX none (by kernel_rfl) (fun x y h=>(Mp x).trans h)
def vk:List (Nat×Ann):=[]
noncomputable def iY:az:=⟨[.box [.val (.slice .str),.val .bool]],[.val ax],fun x=>uA x.1⟩
noncomputable def xK:Cx:=⟨Tryz.prog,[(155,fS),(189,lY)],[]⟩
theorem GU:∀ x,aQ xK vk none Tryz.f156 iY x=iY.m x:=by intro x;kernel_rfl
theorem Ij:au Tryz.prog 156:=aq (fn:=Tryz.f156) (by kernel_rfl) rfl (by decide)
theorem Iy:aE Tryz.prog 156 iY:=aB (X:=xK) (.cons oQ oO (.cons Ob NF (.nil _))) (by kernel_rfl) iY vk none (by kernel_rfl) (fun x y h=>(GU x).trans h)
def Be:List (Nat×Ann):=[(100008,⟨[(2,.ref 2 0),(6,.ref 19 0),(7,.ref 7 0),(8,.ref 8 0)],[(2,tq),(7,tq),(8,MZ),(19,Jh)],[],fun _=>0⟩),
 (100010,⟨[(2,.ref 2 0),(6,.ref 19 0),(7,.ref 7 0),(8,.ref 8 0)],[(2,tq),(7,tq),(8,MZ),(19,Jh)],[],fun _=>0⟩),
 (100012,⟨[(2,.ref 2 0),(6,.ref 19 0),(7,.ref 7 0),(8,.ref 8 0)],[(2,tq),(7,tq),(8,MZ),(19,Jh)],[],fun _=>0⟩),
 (100014,⟨[(2,.ref 2 0),(6,.ref 19 0),(7,.ref 7 0),(8,.ref 8 0)],[(2,tq),(7,tq),(8,MZ),(19,Jh)],[],fun _=>0⟩),
 (100016,⟨[(2,.ref 2 0),(6,.ref 19 0),(7,.ref 7 0),(8,.ref 8 0)],[(2,tq),(7,tq),(8,MZ),(19,Jh)],[],fun _=>0⟩),
 (100018,⟨[(2,.ref 2 0),(6,.ref 19 0),(7,.ref 7 0)],[(2,tq),(7,tq),(19,Jh)],[],fun _=>0⟩)]
noncomputable def nq:az:=⟨[.val .str],[.val aF,.val .bool],fun x=>JW x.1⟩
noncomputable def Ee:Cx:=⟨Tryz.prog,[(62,mL),(150,vW),(151,jy),(152,jX),(153,oE),(154,l6),(155,fS),(156,iY)],[]⟩
theorem Nq:∀ x,aQ Ee Be none Tryz.f105 nq x=nq.m x:=by intro x;kernel_rfl
theorem PE:au Tryz.prog 105:=aq (fn:=Tryz.f105) (by kernel_rfl) rfl (by decide)
theorem PL:aE Tryz.prog 105 nq:=aB (X:=Ee) (.cons HG Hz (.cons Yb XA (.cons JS JJ (.cons K6 KJ (.cons Rn Re (.cons Od NH (.cons oQ oO (.cons Iy Ij (.nil _))))))))) (by kernel_rfl) nq Be none (by kernel_rfl) (fun x y h=>(Nq x).trans h)
def G6:List (Nat×Ann):=[(6,⟨[(5,.val (.slice .str)),(6,.val .bool),(7,.own 54 aF),(21,.val (.slice .str)),(22,.val tI),(23,.val tI)],[],[],aV _⟩),
 (200006,⟨[(7,.own 54 aF)],[],[],fun _=>0⟩),
 (300009,⟨[(45,.val .bool)],[],[],fun _=>0⟩)]
noncomputable def tO:az:=⟨[.val .str],[.row 54 aF,.val tI,.val tI],fun x=>Ti x.1⟩
noncomputable def LS:Cx:=⟨Tryz.prog,[(75,iM),(104,vV),(105,nq)],[]⟩
theorem TY:∀ x,aQ LS G6 none Tryz.f50 tO x=tO.m x:=by intro x;kernel_rfl
theorem We:au Tryz.prog 50:=aq (fn:=Tryz.f50) (by kernel_rfl) rfl (by decide)
theorem Wm:aE Tryz.prog 50 tO:=aB (X:=LS) (.cons Bw Bu (.cons Ya Xz (.cons PL PE (.nil _)))) (by kernel_rfl) tO G6 none (by kernel_rfl) (fun x y h=>(TY x).trans h)
def LD:List (Nat×Ann):=[(300002,⟨[(0,.val .bool)],[],[],fun _=>0⟩)]
noncomputable def yc:az:=⟨[],[.val .bool],fun x=>Rk ⟩
noncomputable def P7:Cx:=⟨Tryz.prog,[(50,tO)],[]⟩
theorem Xf:∀ x,aQ P7 LD none Tryz.f16 yc x=yc.m x:=by intro x;kernel_rfl
theorem Y6:au Tryz.prog 16:=aq (fn:=Tryz.f16) (by kernel_rfl) rfl (by decide)
theorem Zi:aE Tryz.prog 16 yc:=aB (X:=P7) (.cons Wm We (.nil _)) (by kernel_rfl) yc LD none (by kernel_rfl) (fun x y h=>(Xf x).trans h)
end Go.Proofs.SeatA
set_option maxRecDepth 100000
namespace Go.Proofs.SeatA
open Go.Dn Go.Md Go.Proofs
def qN:List (Nat×Ann):=[]
noncomputable def eN:az:=⟨[.val .hnd,.val .hnd,.arR aC],[.val tI],fun x=>ep x.1 x.2.1 x.2.2.1⟩
noncomputable def se:Cx:=⟨Tryz.prog,[],[]⟩
theorem BJ:∀ x,aQ se qN none Tryz.f107 eN x=eN.m x:=by intro x;kernel_rfl
theorem si:au Tryz.prog 107:=aq (fn:=Tryz.f107) (by kernel_rfl) rfl (by decide)
theorem sj:aE Tryz.prog 107 eN:=aB (X:=se) (.nil _) (by kernel_rfl) eN qN none (by kernel_rfl) (fun x y h=>(BJ x).trans h)
def iP:List (Nat×Ann):=[(1,⟨[(0,.rowR 10250000),(1,.val tI),(2,.val tI),(3,.val (.clo 107 .unit)),(8,.val tI)],[],[.rowC 10250000 68 .hnd,.arF aC],aV _⟩),
 (4,⟨[(0,.rowR 10250000),(1,.val tI),(2,.val tI),(3,.val (.clo 107 .unit)),(8,.val tI),(9,.val tI)],[],[.rowC 10250000 68 .hnd,.arF aC],aV _⟩),
 (200001,⟨[],[],[.rowC 10250000 68 .hnd,.arF aC],fun _=>0⟩),
 (200004,⟨[(0,.rowR 10250000),(1,.val tI),(2,.val tI),(3,.val (.clo 107 .unit)),(8,.val tI)],[],[.rowC 10250000 68 .hnd,.arF aC],fun _=>0⟩)]
noncomputable def cE:az:=⟨[.mrow 68 .hnd,.val tI,.val tI,.val (.clo 107 .unit),.arR aC],[],fun x=>cP x.1 x.2.1 x.2.2.1 x.2.2.2.1 x.2.2.2.2.1⟩
noncomputable def jk:Cx:=⟨Tryz.prog,[(107,eN)],[]⟩
theorem qP:∀ x,aQ jk iP none Tryz.f190 cE x=cE.m x:=by intro x;kernel_rfl
theorem rf:au Tryz.prog 190:=aq (fn:=Tryz.f190) (by kernel_rfl) rfl (by decide)
theorem ru:aE Tryz.prog 190 cE:=aB (X:=jk) (.cons sj si (.nil _)) (by kernel_rfl) cE iP none (by kernel_rfl) (fun x y h=>(qP x).trans h)
def jI:List (Nat×Ann):=[(1,⟨[(0,.rowR 10250000),(1,.val tI),(2,.val tI),(3,.val tI),(10,.val tI)],[],[.rowC 10250000 68 .hnd,.arF aC],aV _⟩),
 (200001,⟨[],[],[.rowC 10250000 68 .hnd,.arF aC],fun _=>0⟩)]
noncomputable def cX:az:=⟨[.mrow 68 .hnd,.val tI,.val tI,.val tI,.val (.clo 107 .unit),.arR aC],[],fun x=>cI x.1 x.2.1 x.2.2.1 x.2.2.2.1 x.2.2.2.2.1 x.2.2.2.2.2.1⟩
noncomputable def kJ:Cx:=⟨Tryz.prog,[],[]⟩
theorem tr:∀ x,aQ kJ jI none Tryz.f234 cX x=cX.m x:=by intro x;kernel_rfl
theorem uv:au Tryz.prog 234:=aq (fn:=Tryz.f234) (by kernel_rfl) rfl (by decide)
theorem uy:aE Tryz.prog 234 cX:=aB (X:=kJ) (.nil _) (by kernel_rfl) cX jI none (by kernel_rfl) (fun x y h=>(tr x).trans h)
def lz:List (Nat×Ann):=[(2,⟨[(0,.rowR 10250000),(2,.val tI),(4,.val (.clo 107 .unit)),(10,.val tI),(11,.val tI)],[],[.rowC 10250000 68 .hnd,.arF aC],aV _⟩),
 (200002,⟨[(0,.rowR 10250000),(2,.val tI),(4,.val (.clo 107 .unit)),(10,.val tI)],[],[.rowC 10250000 68 .hnd,.arF aC],fun _=>0⟩)]
noncomputable def dJ:az:=⟨[.mrow 68 .hnd,.val tI,.val tI,.val tI,.val (.clo 107 .unit),.arR aC],[],fun x=>gh x.1 x.2.1 x.2.2.1 x.2.2.2.1 x.2.2.2.2.1 x.2.2.2.2.2.1⟩
noncomputable def mq:Cx:=⟨Tryz.prog,[(234,cX)],[]⟩
theorem vp:∀ x,aQ mq lz none Tryz.f218 dJ x=dJ.m x:=by intro x;kernel_rfl
theorem wI:au Tryz.prog 218:=aq (fn:=Tryz.f218) (by kernel_rfl) rfl (by decide)
theorem wM:aE Tryz.prog 218 dJ:=aB (X:=mq) (.cons uy uv (.nil _)) (by kernel_rfl) dJ lz none (by kernel_rfl) (fun x y h=>(vp x).trans h)
def kz:List (Nat×Ann):=[(3,⟨[(0,.rowR 10250000),(1,.val tI),(4,.val (.clo 107 .unit)),(10,.val tI),(11,.val tI)],[],[.rowC 10250000 68 .hnd,.arF aC],aV _⟩),
 (9,⟨[(0,.rowR 10250000),(10,.val tI),(13,.val tI)],[],[.rowC 10250000 68 .hnd,.arF aC],aV _⟩),
 (15,⟨[(0,.rowR 10250000),(2,.val tI),(4,.val (.clo 107 .unit)),(14,.val tI),(15,.val tI)],[],[.rowC 10250000 68 .hnd,.arF aC],aV _⟩),
 (21,⟨[(0,.rowR 10250000),(14,.val tI),(17,.val tI)],[],[.rowC 10250000 68 .hnd,.arF aC],aV _⟩),
 (33,⟨[(0,.rowR 10250000),(1,.val tI),(2,.val tI),(3,.val tI),(4,.val (.clo 107 .unit)),(18,.val tI),(19,.val tI),(20,.val tI),(21,.val tI),(22,.val tI)],[],[.rowC 10250000 68 .hnd,.arF aC],aV _⟩),
 (100030,⟨[(0,.rowR 10250000),(1,.val tI),(2,.val tI),(3,.val tI),(4,.val (.clo 107 .unit)),(18,.val tI),(19,.val tI),(20,.val tI),(21,.val tI)],[],[.rowC 10250000 68 .hnd,.arF aC],fun _=>0⟩),
 (100040,⟨[(0,.rowR 10250000),(1,.val tI),(3,.val tI),(4,.val (.clo 107 .unit)),(18,.val tI),(20,.val tI),(24,.val tI)],[],[.rowC 10250000 68 .hnd,.arF aC],fun _=>0⟩),
 (100042,⟨[(0,.rowR 10250000),(3,.val tI),(4,.val (.clo 107 .unit)),(18,.val tI),(24,.val tI)],[],[.rowC 10250000 68 .hnd,.arF aC],fun _=>0⟩),
 (200003,⟨[(0,.rowR 10250000),(1,.val tI),(10,.val tI)],[],[.rowC 10250000 68 .hnd,.arF aC],fun _=>0⟩),
 (200009,⟨[],[],[.rowC 10250000 68 .hnd,.arF aC],fun _=>0⟩),
 (200015,⟨[(0,.rowR 10250000),(2,.val tI),(14,.val tI)],[],[.rowC 10250000 68 .hnd,.arF aC],fun _=>0⟩),
 (200021,⟨[],[],[.rowC 10250000 68 .hnd,.arF aC],fun _=>0⟩),
 (200033,⟨[(0,.rowR 10250000),(1,.val tI),(2,.val tI),(3,.val tI),(4,.val (.clo 107 .unit)),(18,.val tI),(19,.val tI),(20,.val tI)],[],[.rowC 10250000 68 .hnd,.arF aC],fun _=>0⟩)]
def bK:List PM:=[.mrow 68 .hnd,.val tI,.val tI,.val tI,.val (.clo 107 .unit),.arR aC]
def cA:List RM:=[]
noncomputable def kK:List (Nat×az):=[(107,eN),(218,dJ)]
noncomputable def lE:az:=⟨bK,cA,fun x=>dO x.1 x.2.1 x.2.2.1 x.2.2.2.1 x.2.2.2.2.1 x.2.2.2.2.2.1⟩
theorem uo:∀ (self:gu bK→Option (dV bK cA)) (x:gu bK),aQ ⟨Tryz.prog,(191,⟨bK,cA,self⟩)::kK,[]⟩ kz none Tryz.f191 ⟨bK,cA,fun x=>bY self x.1 x.2.1 x.2.2.1 x.2.2.2.1 x.2.2.2.2.1 x.2.2.2.2.2.1⟩ x=bY self x.1 x.2.1 x.2.2.1 x.2.2.2.1 x.2.2.2.2.1 x.2.2.2.2.2.1:=by intro self x;kernel_rfl
theorem lC:au Tryz.prog 191:=aq (fn:=Tryz.f191) (by kernel_rfl) rfl (by decide)
theorem u6:aE Tryz.prog 191 lE:=YY (ps:=bK) (rs:=cA) (m:=fun n x=>Gu (fun self x=>bY self x.1 x.2.1 x.2.2.1 x.2.2.2.1 x.2.2.2.2.1 x.2.2.2.2.2.1) n x) (SF (P:=Tryz.prog) (specs:=kK) (ps:=bK) (rs:=cA) (.cons sj si (.cons wM wI (.nil _))) (by kernel_rfl) (fun self x=>bY self x.1 x.2.1 x.2.2.1 x.2.2.2.1 x.2.2.2.2.1 x.2.2.2.2.2.1) kz none (by kernel_rfl) lC uo) (fun x=>gp x.1 x.2.1 x.2.2.1 x.2.2.2.1 x.2.2.2.2.1 x.2.2.2.2.2.1)
def lB:List (Nat×Ann):=[(2,⟨[(0,.rowR 10250000),(1,.val tI),(2,.val (.clo 107 .unit)),(6,.val tI),(7,.val tI),(8,.val tI)],[],[.rowC 10250000 68 .hnd,.arF aC],aV _⟩),
 (7,⟨[(0,.rowR 10250000),(1,.val tI),(2,.val (.clo 107 .unit)),(6,.val tI)],[],[.rowC 10250000 68 .hnd,.arF aC],aV _⟩),
 (9,⟨[(0,.rowR 10250000),(1,.val tI),(2,.val (.clo 107 .unit)),(6,.val tI),(7,.val tI),(8,.val tI)],[],[.rowC 10250000 68 .hnd,.arF aC],aV _⟩),
 (200002,⟨[(0,.rowR 10250000),(1,.val tI),(2,.val (.clo 107 .unit)),(6,.val tI),(7,.val tI)],[],[.rowC 10250000 68 .hnd,.arF aC],fun _=>0⟩),
 (200007,⟨[],[],[.rowC 10250000 68 .hnd,.arF aC],fun _=>0⟩),
 (200009,⟨[(0,.rowR 10250000),(1,.val tI),(2,.val (.clo 107 .unit)),(6,.val tI),(7,.val tI)],[],[.rowC 10250000 68 .hnd,.arF aC],fun _=>0⟩)]
noncomputable def dK:az:=⟨[.mrow 68 .hnd,.val tI,.val (.clo 107 .unit),.arR aC],[],fun x=>jh x.1 x.2.1 x.2.2.1 x.2.2.2.1⟩
noncomputable def mu:Cx:=⟨Tryz.prog,[(190,cE),(191,lE)],[]⟩
theorem vq:∀ x,aQ mu lB none Tryz.f157 dK x=dK.m x:=by intro x;kernel_rfl
theorem wJ:au Tryz.prog 157:=aq (fn:=Tryz.f157) (by kernel_rfl) rfl (by decide)
theorem wN:aE Tryz.prog 157 dK:=aB (X:=mu) (.cons ru rf (.cons u6 lC (.nil _))) (by kernel_rfl) dK lB none (by kernel_rfl) (fun x y h=>(vq x).trans h)
def kI:List (Nat×Ann):=[]
noncomputable def di:az:=⟨[.mrow 68 .hnd,.val (.clo 107 .unit),.arR aC],[],fun x=>dW x.1 x.2.1 x.2.2.1⟩
noncomputable def lP:Cx:=⟨Tryz.prog,[(157,dK)],[]⟩
theorem uY:∀ x,aQ lP kI none Tryz.f106 di x=di.m x:=by intro x;kernel_rfl
theorem vw:au Tryz.prog 106:=aq (fn:=Tryz.f106) (by kernel_rfl) rfl (by decide)
theorem vF:aE Tryz.prog 106 di:=aB (X:=lP) (.cons wN wJ (.nil _)) (by kernel_rfl) di kI none (by kernel_rfl) (fun x y h=>(uY x).trans h)
def rW:List (Nat×Ann):=[(3,⟨[(1,.val tI),(5,.own 68 .hnd),(9,.rowR 29968),(10,.val tI),(11,.val tI)],[(2000,ab1)],[.rowC 28436 133 ax,.rowC 28437 177 bR,.rowC 29968 68 .hnd,.mapC 28435 tI .hnd,.ar aC],aV _⟩),
 (200003,⟨[(5,.own 68 .hnd)],[(2000,ab1)],[.rowC 28436 133 ax,.rowC 28437 177 bR,.mapC 28435 tI .hnd,.ar aC],fun _=>0⟩),
 (300005,⟨[(25,.val .bool)],[],[],fun _=>0⟩)]
noncomputable def gF:az:=⟨[.box [.val bB,.val (.slice aF),.map tI .hnd,.row 133 ax,.row 177 bR,.val tI],.val tI,.ar aC],[.row 68 .hnd],fun x=>lI x.1 x.2.1 x.2.2.1⟩
noncomputable def uI:Cx:=⟨Tryz.prog,[(31,gW),(43,gd),(106,di)],[]⟩
theorem DM:∀ x,aQ uI rW none Tryz.f51 gF x=gF.m x:=by intro x;kernel_rfl
theorem EA:au Tryz.prog 51:=aq (fn:=Tryz.f51) (by kernel_rfl) rfl (by decide)
theorem EI:aE Tryz.prog 51 gF:=aB (X:=uI) (.cons Ge FQ (.cons p9 pS (.cons vF vw (.nil _)))) (by kernel_rfl) gF rW none (by kernel_rfl) (fun x y h=>(DM x).trans h)
def Fm:List (Nat×Ann):=[(3,⟨[(1,.val tI),(5,.own 34 bW),(10,.rowR 32016),(11,.val tI),(12,.val tI)],[],[.rowC 32016 34 bW],aV _⟩),
 (7,⟨[(1,.val tI),(5,.own 34 bW),(7,.ref 7 0),(8,.val tI),(10,.rowR 32016),(11,.val tI),(12,.val tI)],[(7,R8)],[.rowC 32016 34 bW],aV _⟩),
 (200003,⟨[(5,.own 34 bW)],[],[],fun _=>0⟩),
 (200007,⟨[(1,.val tI),(5,.own 34 bW),(7,.ref 7 0),(8,.val tI),(10,.rowR 32016),(11,.val tI),(12,.val tI)],[(7,R8)],[.rowC 32016 34 bW],fun _=>0⟩),
 (300007,⟨[(40,.val .bool)],[],[],fun _=>0⟩)]
noncomputable def rO:az:=⟨[.val (.ptr fB),.val tI],[.row 34 bW],fun x=>CB x.1 x.2.1⟩
noncomputable def Jp:Cx:=⟨Tryz.prog,[(35,nt),(109,tQ)],[]⟩
theorem Sp:∀ x,aQ Jp Fm none Tryz.f53 rO x=rO.m x:=by intro x;kernel_rfl
theorem Ug:au Tryz.prog 53:=aq (fn:=Tryz.f53) (by kernel_rfl) rfl (by decide)
theorem Ux:aE Tryz.prog 53 rO:=aB (X:=Jp) (.cons PO PG (.cons DS DQ (.nil _))) (by kernel_rfl) rO Fm none (by kernel_rfl) (fun x y h=>(Sp x).trans h)
def tj:List (Nat×Ann):=[(4,⟨[(0,.val (.slice iu)),(1,.val (.slice iu)),(12,.val tI),(13,.val tI)],[],[],aV _⟩),
 (200004,⟨[],[],[],fun _=>0⟩)]
noncomputable def gX:az:=⟨[.val (.slice iu),.val (.slice iu)],[.val .bool],fun x=>mJ x.1 x.2.1⟩
noncomputable def vo:Cx:=⟨Tryz.prog,[],[]⟩
theorem Ew:∀ x,aQ vo tj none Tryz.f19 gX x=gX.m x:=by intro x;kernel_rfl
theorem FT:au Tryz.prog 19:=aq (fn:=Tryz.f19) (by kernel_rfl) rfl (by decide)
theorem Gg:aE Tryz.prog 19 gX:=aB (X:=vo) (.nil _) (by kernel_rfl) gX tj none (by kernel_rfl) (fun x y h=>(Ew x).trans h)
end Go.Proofs.SeatA
set_option maxRecDepth 100000
namespace Go.Proofs.SeatA
open Go.Dn Go.Md Go.Proofs
def zz:List (Nat×Ann):=[(5,⟨[(3,.mapR 11),(12,.val (.slice cu)),(13,.val tI),(14,.val tI)],[],[.mapC 11 aU .bool],aV _⟩),
 (200005,⟨[],[],[],fun _=>0⟩)]
noncomputable def kS:az:=⟨[.val (.slice cu)],[.val tI],fun x=>ou x.1⟩
noncomputable def Bq:Cx:=⟨Tryz.prog,[(118,kE),(119,fA)],[]⟩
theorem Ks:∀ x,aQ Bq zz none Tryz.f68 kS x=kS.m x:=by intro x;kernel_rfl
theorem MD:au Tryz.prog 68:=aq (fn:=Tryz.f68) (by kernel_rfl) rfl (by decide)
theorem MG:aE Tryz.prog 68 kS:=aB (X:=Bq) (.cons yE yA (.cons qy qw (.nil _))) (by kernel_rfl) kS zz none (by kernel_rfl) (fun x y h=>(Ks x).trans h)
def GZ:List (Nat×Ann):=[(9,⟨[(2,.val tI),(10,.ref 25 0),(13,.mapR 36),(37,.val (.slice cu)),(38,.val tI),(39,.val tI)],[(25,ab2)],[.rowC 62740 133 ax,.rowC 62741 177 bR,.mapC 36 aU tI,.mapC 62739 tI .hnd,.ar aC],aV _⟩),
 (15,⟨[(13,.mapR 36),(16,.own 48 iu),(55,.rowR 124176),(56,.val tI),(57,.val tI)],[],[.rowC 124176 68 .hnd,.mapC 36 aU tI,.ar aC],aV _⟩),
 (200009,⟨[(2,.val tI),(10,.ref 25 0),(13,.mapR 36)],[(25,ab2)],[.rowC 62740 133 ax,.rowC 62741 177 bR,.mapC 36 aU tI,.mapC 62739 tI .hnd,.ar aC],fun _=>0⟩),
 (200015,⟨[(16,.own 48 iu)],[],[.ar aC],fun _=>0⟩)]
noncomputable def tN:az:=⟨[.val bB,.val (.slice aF),.val tI,.val (.slice cu)],[.val (.slice iu),.val tI],fun x=>EM x.1 x.2.1 x.2.2.1 x.2.2.2.1⟩
noncomputable def LR:Cx:=⟨Tryz.prog,[(30,tP),(30,yd),(43,gd),(51,gF),(52,pH),(68,kS),(69,gy)],[]⟩
theorem TX:∀ x,aQ LR GZ (some aC) Tryz.f27 tN x=tN.m x:=by intro x;kernel_rfl
theorem Wd:au Tryz.prog 27:=aq (fn:=Tryz.f27) (by kernel_rfl) rfl (by decide)
theorem Wl:aE Tryz.prog 27 tN:=aB (X:=LR) (.cons Wn Wf (.cons Zj Y7 (.cons p9 pS (.cons EI EA (.cons Mg Mb (.cons MG MD (.cons nS nQ (.nil _)))))))) (by kernel_rfl) tN GZ (some aC) (by kernel_rfl) (fun x y h=>(TX x).trans h)
def rY:List (Nat×Ann):=[]
noncomputable def gH:az:=⟨[.val (.slice cu)],[.row 122 cu],fun x=>lM x.1⟩
noncomputable def uK:Cx:=⟨Tryz.prog,[],[]⟩
theorem DO:∀ x,aQ uK rY none Tryz.f72 gH x=gH.m x:=by intro x;kernel_rfl
theorem EC:au Tryz.prog 72:=aq (fn:=Tryz.f72) (by kernel_rfl) rfl (by decide)
theorem EK:aE Tryz.prog 72 gH:=aB (X:=uK) (.nil _) (by kernel_rfl) gH rY none (by kernel_rfl) (fun x y h=>(DO x).trans h)
def MQ:List (Nat×Ann):=[(7,⟨[(1,.val (.slice aF)),(2,.val tI),(3,.val (.slice cu)),(4,.ref 4 0),(33,.val (.slice cu)),(34,.val tI),(35,.val tI)],[(4,R7)],[],aV _⟩),
 (15,⟨[(1,.val (.slice aF)),(2,.val tI),(3,.val (.slice cu)),(4,.ref 4 0),(12,.ref 12 0),(33,.val (.slice cu)),(34,.val tI),(35,.val tI),(58,.val (.slice cu)),(59,.val tI),(60,.val tI)],[(4,R7),(12,[.val .str,.val .str,.val tI,.val tI])],[],aV _⟩),
 (24,⟨[(16,.rowR 173328),(17,.own 48 iu),(85,.rowR 185616),(86,.val tI),(87,.val tI)],[],[.rowC 173328 122 cu,.rowC 185616 34 bW],aV _⟩),
 (27,⟨[(16,.rowR 173328),(17,.own 48 iu),(19,.ref 19 0),(85,.rowR 185616),(86,.val tI),(87,.val tI),(91,.rowR 173328),(92,.val tI),(93,.val tI)],[(19,R8)],[.rowC 173328 122 cu,.rowC 185616 34 bW],aV _⟩),
 (100032,⟨[(16,.rowR 173328),(17,.own 48 iu),(19,.ref 19 0),(20,.val tI),(21,.ref 21 0),(22,.ref 22 0),(85,.rowR 185616),(86,.val tI),(87,.val tI),(91,.rowR 173328),(92,.val tI),(93,.val tI)],[(19,R8),(21,[.val .str,.val .str,.val tI,.val tI]),(22,[.val tI,.val tI])],[.rowC 173328 122 cu,.rowC 185616 34 bW],fun _=>0⟩),
 (200007,⟨[(1,.val (.slice aF)),(2,.val tI),(3,.val (.slice cu)),(4,.ref 4 0)],[(4,R7)],[],fun _=>0⟩),
 (200015,⟨[(1,.val (.slice aF)),(2,.val tI),(3,.val (.slice cu)),(4,.ref 4 0),(33,.val (.slice cu)),(34,.val tI),(35,.val tI)],[(4,R7)],[],fun _=>0⟩),
 (200024,⟨[(17,.own 48 iu)],[],[],fun _=>0⟩),
 (200027,⟨[(16,.rowR 173328),(17,.own 48 iu),(85,.rowR 185616),(86,.val tI),(87,.val tI)],[],[.rowC 173328 122 cu,.rowC 185616 34 bW],fun _=>0⟩),
 (300017,⟨[(75,.val .bool)],[],[],fun _=>0⟩)]
noncomputable def AZ:az:=⟨[.val bB,.val (.slice aF),.val tI,.val (.slice cu)],[.val (.slice iu),.val tI],fun x=>Pp x.1 x.2.1 x.2.2.1 x.2.2.2.1⟩
noncomputable def Sc:Cx:=⟨Tryz.prog,[(33,vY),(34,DF),(49,jY),(53,rO),(70,l9),(71,gB),(72,gH),(73,sw),(74,qJ)],[]⟩
theorem YS:∀ x,aQ Sc MQ none Tryz.f28 AZ x=AZ.m x:=by intro x;kernel_rfl
theorem aaU:au Tryz.prog 28:=aq (fn:=Tryz.f28) (by kernel_rfl) rfl (by decide)
theorem abc:aE Tryz.prog 28 AZ:=aB (X:=Sc) (.cons Ye XD (.cons acS acn (.cons vD vt (.cons Ux Ug (.cons AB As (.cons ux ur (.cons EK EC (.cons HI HB (.cons IA Il (.nil _)))))))))) (by kernel_rfl) AZ MQ none (by kernel_rfl) (fun x y h=>(YS x).trans h)
def rV:List (Nat×Ann):=[(300003,⟨[(8,.val .bool)],[],[],fun _=>0⟩)]
noncomputable def jE:az:=⟨[.val bB,.val (.slice aF),.val tI,.val (.slice cu)],[.val .bool],fun x=>lH x.1 x.2.1 x.2.2.1 x.2.2.2.1⟩
noncomputable def uH:Cx:=⟨Tryz.prog,[(16,yc),(19,gX),(27,tN),(28,AZ)],[]⟩
theorem DL:∀ x,aQ uH rV none Tryz.f5 jE x=jE.m x:=by intro x;kernel_rfl
theorem EH:aE Tryz.prog 5 jE:=aB (X:=uH) (.cons Zi Y6 (.cons Gg FT (.cons Wl Wd (.cons abc aaU (.nil _))))) (by kernel_rfl) jE rV none (by kernel_rfl) (fun x y h=>(DL x).trans h)
end Go.Proofs.SeatA
