/-
  Each function that the law reaches is as its plain model says. No condition.
-/
import Derived.Test.YtcndcnfjdanbeaaGreatDoorXv
set_option linter.all false
set_option maxRecDepth 100000
namespace Go.Proofs.SeatA
open Go.Dn Go.Md Go.Proofs
def NH:List CK:=[.val .bool,.own 192 (.int .u32)]
def FZ:List CK:=[.val .bool,.val (.slice (.int .u32))]
def acD:List CK:=[.val .bool,.val .bool,.val .bool,.val .bool,.val .bool,.val .bool]
def acE:List CK:=[.val .str,.val .str,.val .str,.val tI,.val tI,.val (.slice fm),.val (.slice ay),.mapR 10,.own 133 ax,.own 177 bZ,.val tI]
def acF:List CK:=[.val .str,.val .str,.val .str,.val tI,.val tI,.val (.slice fm),.val (.slice ay),.mapR 10250003,.rowR 10250004,.rowR 10250005,.val tI]
def NI:List CK:=[.val tI,.val tI,.val tI,.val tI,.val tI,.val .str,.val tI,.val tI,.val .str,.val tI,.val tI,.val tI,.val tI]
def HK:List (Nat×Ann):=[]
noncomputable def mM:az:=⟨[.val .str],[.val .bool],fun x=>gz x.1⟩
noncomputable def MG:Cx:=⟨Tryz.prog,[(178,Bg)],[]⟩
theorem UW:∀ x,aM MG HK none Tryz.f118 mM x=mM.m x:=by intro x;kernel_rfl
theorem El:au Tryz.prog 118:=an (fn:=Tryz.f118) (by kernel_rfl) rfl (by decide)
theorem Ep:aD Tryz.prog 118 mM:=aA (X:=MG) (.cons Ue TL (.nil _)) (by kernel_rfl) mM HK none (by kernel_rfl) (fun x y h=>(UW x).trans h)
def FO:List (Nat×Ann):=[]
noncomputable def gp:az:=⟨[.val tI,.val tI,.val tI],[.val .bool],fun x=>fo x.1 x.2.1 x.2.2.1⟩
noncomputable def Kc:Cx:=⟨Tryz.prog,[],[]⟩
theorem Ti:∀ x,aM Kc FO none Tryz.f36 gp x=gp.m x:=by intro x;kernel_rfl
theorem nK:au Tryz.prog 36:=an (fn:=Tryz.f36) (by kernel_rfl) rfl (by decide)
theorem nL:aD Tryz.prog 36 gp:=aA (X:=Kc) (.nil _) (by kernel_rfl) gp FO none (by kernel_rfl) (fun x y h=>(Ti x).trans h)
def JH:List (Nat×Ann):=[]
noncomputable def iS:az:=⟨[.val tI],[.val .bool],fun x=>nG x.1⟩
noncomputable def NN:Cx:=⟨Tryz.prog,[(36,gp)],[]⟩
theorem WW:∀ x,aM NN JH none Tryz.f56 iS x=iS.m x:=by intro x;kernel_rfl
theorem ri:au Tryz.prog 56:=an (fn:=Tryz.f56) (by kernel_rfl) rfl (by decide)
theorem rD:aD Tryz.prog 56 iS:=aA (X:=NN) (.cons nL nK (.nil _)) (by kernel_rfl) iS JH none (by kernel_rfl) (fun x y h=>(WW x).trans h)
def vf:List (Nat×Ann):=[]
noncomputable def gm:az:=⟨[.val ax],[.val tI],fun x=>iD x.1⟩
noncomputable def xL:Cx:=⟨Tryz.prog,[(36,gp)],[]⟩
theorem HA:∀ x,aM xL vf none Tryz.f136 gm x=gm.m x:=by intro x;kernel_rfl
theorem xT:au Tryz.prog 136:=an (fn:=Tryz.f136) (by kernel_rfl) rfl (by decide)
theorem x6:aD Tryz.prog 136 gm:=aA (X:=xL) (.cons nL nK (.nil _)) (by kernel_rfl) gm vf none (by kernel_rfl) (fun x y h=>(HA x).trans h)
def FQ:List (Nat×Ann):=[(3,⟨[(3,.val tI),(4,.val tI),(5,.val tI)],[],[],aS _⟩),
 (200003,⟨[(3,.val tI)],[],[],fun _=>0⟩)]
noncomputable def nO:az:=⟨[.val tI],[.val tI],fun x=>CH x.1⟩
noncomputable def Kf:Cx:=⟨Tryz.prog,[],[]⟩
theorem Tk:∀ x,aM Kf FQ none Tryz.f120 nO x=nO.m x:=by intro x;kernel_rfl
theorem Kz:au Tryz.prog 120:=an (fn:=Tryz.f120) (by kernel_rfl) rfl (by decide)
theorem KH:aD Tryz.prog 120 nO:=aA (X:=Kf) (.nil _) (by kernel_rfl) nO FQ none (by kernel_rfl) (fun x y h=>(Tk x).trans h)
def EH:List (Nat×Ann):=[]
noncomputable def mF:az:=⟨[.val ax,.val tI,.val tI],[.val .bool],fun x=>rL x.1 x.2.1 x.2.2.1⟩
noncomputable def HZ:Cx:=⟨Tryz.prog,[(120,nO)],[]⟩
theorem RU:∀ x,aM HZ EH none Tryz.f179 mF x=mF.m x:=by intro x;kernel_rfl
theorem Ih:au Tryz.prog 179:=an (fn:=Tryz.f179) (by kernel_rfl) rfl (by decide)
theorem Ip:aD Tryz.prog 179 mF:=aA (X:=HZ) (.cons KH Kz (.nil _)) (by kernel_rfl) mF EH none (by kernel_rfl) (fun x y h=>(RU x).trans h)
def vg:List (Nat×Ann):=[]
noncomputable def gq:az:=⟨[.val ax,.val .bool],[.val tI],fun x=>kK x.1 x.2.1⟩
noncomputable def xM:Cx:=⟨Tryz.prog,[(136,gm),(179,mF)],[]⟩
theorem HB:∀ x,aM xM vg none Tryz.f119 gq x=gq.m x:=by intro x;kernel_rfl
theorem xZ:au Tryz.prog 119:=an (fn:=Tryz.f119) (by kernel_rfl) rfl (by decide)
theorem yc:aD Tryz.prog 119 gq:=aA (X:=xM) (.cons x6 xT (.cons Ip Ih (.nil _))) (by kernel_rfl) gq vg none (by kernel_rfl) (fun x y h=>(HB x).trans h)
def zB:List (Nat×Ann):=[]
noncomputable def iH:az:=⟨[.val ax],[.val tI],fun x=>nY x.1⟩
noncomputable def BB:Cx:=⟨Tryz.prog,[(136,gm),(179,mF)],[]⟩
theorem Lf:∀ x,aM BB zB none Tryz.f199 iH x=iH.m x:=by intro x;kernel_rfl
theorem BH:au Tryz.prog 199:=an (fn:=Tryz.f199) (by kernel_rfl) rfl (by decide)
theorem BK:aD Tryz.prog 199 iH:=aA (X:=BB) (.cons x6 xT (.cons Ip Ih (.nil _))) (by kernel_rfl) iH zB none (by kernel_rfl) (fun x y h=>(Lf x).trans h)
def Aa:List (Nat×Ann):=[(300004,⟨[(17,.val .bool)],[],[],fun _=>0⟩)]
noncomputable def lU:az:=⟨[.val bp,.val tI],[.val tI],fun x=>uQ x.1 x.2.1⟩
noncomputable def Dq:Cx:=⟨Tryz.prog,[(36,gp),(118,mM),(119,gq),(199,iH)],[]⟩
theorem Nf:∀ x,aM Dq Aa none Tryz.f171 lU x=lU.m x:=by intro x;kernel_rfl
theorem Ov:au Tryz.prog 171:=an (fn:=Tryz.f171) (by kernel_rfl) rfl (by decide)
theorem O6:aD Tryz.prog 171 lU:=aA (X:=Dq) (.cons nL nK (.cons Ep El (.cons yc xZ (.cons BK BH (.nil _))))) (by kernel_rfl) lU Aa none (by kernel_rfl) (fun x y h=>(Nf x).trans h)
def zA:List (Nat×Ann):=[(12,⟨[(1,.ref 1 0),(50,.val tI),(51,.val tI)],[(1,[.val .str,.val .str,.val .str,.val tI,.val tI,.val (.slice fm)])],[],aS _⟩),
 (200012,⟨[],[],[],fun _=>0⟩)]
noncomputable def kN:az:=⟨[.val bp],[.val tI],fun x=>sY x.1⟩
noncomputable def BA:Cx:=⟨Tryz.prog,[(36,gp),(56,iS),(118,mM),(171,lU)],[]⟩
theorem Ld:∀ x,aM BA zA none Tryz.f112 kN x=kN.m x:=by intro x;kernel_rfl
theorem Nn:au Tryz.prog 112:=an (fn:=Tryz.f112) (by kernel_rfl) rfl (by decide)
theorem Nq:aD Tryz.prog 112 kN:=aA (X:=BA) (.cons nL nK (.cons rD ri (.cons Ep El (.cons O6 Ov (.nil _))))) (by kernel_rfl) kN zA none (by kernel_rfl) (fun x y h=>(Ld x).trans h)
def z7:List (Nat×Ann):=[]
noncomputable def jy:az:=⟨[.val tI],[.val .bool],fun x=>qg x.1⟩
noncomputable def Dm:Cx:=⟨Tryz.prog,[],[]⟩
theorem Nc:∀ x,aM Dm z7 none Tryz.f177 jy x=jy.m x:=by intro x;kernel_rfl
theorem DA:au Tryz.prog 177:=an (fn:=Tryz.f177) (by kernel_rfl) rfl (by decide)
theorem DL:aD Tryz.prog 177 jy:=aA (X:=Dm) (.nil _) (by kernel_rfl) jy z7 none (by kernel_rfl) (fun x y h=>(Nc x).trans h)
def EG:List (Nat×Ann):=[]
noncomputable def jY:az:=⟨[.val tI],[.val Zp],fun x=>rK x.1⟩
noncomputable def HY:Cx:=⟨Tryz.prog,[],[]⟩
theorem RT:∀ x,aM HY EG none Tryz.f62 jY x=jY.m x:=by intro x;kernel_rfl
theorem Ar:au Tryz.prog 62:=an (fn:=Tryz.f62) (by kernel_rfl) rfl (by decide)
theorem AB:aD Tryz.prog 62 jY:=aA (X:=HY) (.nil _) (by kernel_rfl) jY EG none (by kernel_rfl) (fun x y h=>(RT x).trans h)
def Ac:List (Nat×Ann):=[(100003,⟨[(1,.ref 1 0),(3,.ref 3 0)],[(1,NI),(3,acD)],[],fun _=>0⟩),
 (100007,⟨[(1,.ref 1 0),(3,.ref 3 0)],[(1,NI),(3,acD)],[],fun _=>0⟩),
 (300011,⟨[(30,.val .bool)],[],[],fun _=>0⟩),
 (300013,⟨[(39,.val .bool)],[],[],fun _=>0⟩),
 (300015,⟨[(58,.val .bool)],[],[],fun _=>0⟩),
 (300017,⟨[(66,.val .bool)],[],[],fun _=>0⟩)]
noncomputable def lV:az:=⟨[.val ay],[.val tI],fun x=>uT x.1⟩
noncomputable def Ds:Cx:=⟨Tryz.prog,[(36,gp),(56,iS),(62,jY),(118,mM),(119,gq),(199,iH)],[]⟩
theorem Nh:∀ x,aM Ds Ac none Tryz.f180 lV x=lV.m x:=by intro x;kernel_rfl
theorem Ow:au Tryz.prog 180:=an (fn:=Tryz.f180) (by kernel_rfl) rfl (by decide)
theorem O7:aD Tryz.prog 180 lV:=aA (X:=Ds) (.cons nL nK (.cons rD ri (.cons AB Ar (.cons Ep El (.cons yc xZ (.cons BK BH (.nil _))))))) (by kernel_rfl) lV Ac none (by kernel_rfl) (fun x y h=>(Nh x).trans h)
def z6:List (Nat×Ann):=[]
noncomputable def lS:az:=⟨[.val ay],[.val tI],fun x=>uP x.1⟩
noncomputable def Dl:Cx:=⟨Tryz.prog,[(36,gp),(56,iS),(177,jy),(180,lV)],[]⟩
theorem Nb:∀ x,aM Dl z6 none Tryz.f124 lS x=lS.m x:=by intro x;kernel_rfl
theorem Ot:au Tryz.prog 124:=an (fn:=Tryz.f124) (by kernel_rfl) rfl (by decide)
theorem OY:aD Tryz.prog 124 lS:=aA (X:=Dl) (.cons nL nK (.cons rD ri (.cons DL DA (.cons O7 Ow (.nil _))))) (by kernel_rfl) lS z6 none (by kernel_rfl) (fun x y h=>(Nb x).trans h)
def xo:List (Nat×Ann):=[(2,⟨[(22,.rowR 22),(23,.val tI),(24,.val tI)],[],[.rowC 22 3 tI],aS _⟩),
 (200002,⟨[],[],[],fun _=>0⟩)]
noncomputable def jw:az:=⟨[.val ay,.val ay],[.val tI],fun x=>lM x.1 x.2.1⟩
noncomputable def zJ:Cx:=⟨Tryz.prog,[],[]⟩
theorem IU:∀ x,aM zJ xo none Tryz.f125 jw x=jw.m x:=by intro x;kernel_rfl
theorem Kx:au Tryz.prog 125:=an (fn:=Tryz.f125) (by kernel_rfl) rfl (by decide)
theorem KF:aD Tryz.prog 125 jw:=aA (X:=zJ) (.nil _) (by kernel_rfl) jw xo none (by kernel_rfl) (fun x y h=>(IU x).trans h)
def zz:List (Nat×Ann):=[(5,⟨[(0,.val (.slice ay)),(3,.ref 3 0),(11,.val (.slice ay)),(12,.val tI),(13,.val tI)],[(3,[.val tI,.val tI,.val tI])],[],aS _⟩),
 (200005,⟨[],[],[],fun _=>0⟩),
 (300010,⟨[(34,.val .bool)],[],[],fun _=>0⟩)]
noncomputable def iG:az:=⟨[.val (.slice ay)],[.val tI],fun x=>nX x.1⟩
noncomputable def Bz:Cx:=⟨Tryz.prog,[(124,lS),(125,jw)],[]⟩
theorem Lc:∀ x,aM Bz zz none Tryz.f75 iG x=iG.m x:=by intro x;kernel_rfl
theorem BG:au Tryz.prog 75:=an (fn:=Tryz.f75) (by kernel_rfl) rfl (by decide)
theorem BJ:aD Tryz.prog 75 iG:=aA (X:=Bz) (.cons OY Ot (.cons KF Kx (.nil _))) (by kernel_rfl) iG zz none (by kernel_rfl) (fun x y h=>(Lc x).trans h)
def Db:List (Nat×Ann):=[]
noncomputable def jh:az:=⟨[.val bp,.val (.slice ay)],[.val tI],fun x=>pq x.1 x.2.1⟩
noncomputable def F8:Cx:=⟨Tryz.prog,[(75,iG),(112,kN)],[]⟩
theorem Qq:∀ x,aM F8 Db none Tryz.f55 jh x=jh.m x:=by intro x;kernel_rfl
theorem za:au Tryz.prog 55:=an (fn:=Tryz.f55) (by kernel_rfl) rfl (by decide)
theorem zf:aD Tryz.prog 55 jh:=aA (X:=F8) (.cons BJ BG (.cons Nq Nn (.nil _))) (by kernel_rfl) jh Db none (by kernel_rfl) (fun x y h=>(Qq x).trans h)
def FR:List (Nat×Ann):=[]
noncomputable def iu:az:=⟨[.val ax],[.val tI],fun x=>iO x.1⟩
noncomputable def Kg:Cx:=⟨Tryz.prog,[(120,nO)],[]⟩
theorem Tl:∀ x,aM Kg FR none Tryz.f69 iu x=iu.m x:=by intro x;kernel_rfl
theorem rq:au Tryz.prog 69:=an (fn:=Tryz.f69) (by kernel_rfl) rfl (by decide)
theorem rF:aD Tryz.prog 69 iu:=aA (X:=Kg) (.cons KH Kz (.nil _)) (by kernel_rfl) iu FR none (by kernel_rfl) (fun x y h=>(Tl x).trans h)
def xG:List (Nat×Ann):=[(3,⟨[(5,.ref 12 0),(14,.val (.slice fm)),(15,.val tI),(16,.val tI)],[(12,acE)],[.mapC 10 tI .hnd,.ar aB],aS _⟩),
 (200003,⟨[(5,.ref 12 0)],[(12,acE)],[.mapC 10 tI .hnd,.ar aB],fun _=>0⟩)]
noncomputable def ga:az:=⟨[.val bp,.val (.slice ay),.ar aB],[.box [.val bp,.val (.slice ay),.map tI .hnd,.row 133 ax,.row 177 bZ,.val tI]],fun x=>iy x.1 x.2.1 x.2.2.1⟩
noncomputable def Ai:Cx:=⟨Tryz.prog,[(69,iu)],[]⟩
theorem Kn:∀ x,aM Ai xG none Tryz.f57 ga x=ga.m x:=by intro x;kernel_rfl
theorem sV:au Tryz.prog 57:=an (fn:=Tryz.f57) (by kernel_rfl) rfl (by decide)
theorem sX:aD Tryz.prog 57 ga:=aA (X:=Ai) (.cons rF rq (.nil _)) (by kernel_rfl) ga xG none (by kernel_rfl) (fun x y h=>(Kn x).trans h)
def xp:List (Nat×Ann):=[]
noncomputable def jx:az:=⟨[.box [.val bp,.val (.slice ay),.map tI .hnd,.row 133 ax,.row 177 bZ,.val tI],.val tI,.ar aB],[.val tI],fun x=>qd x.1 x.2.1 x.2.2.1⟩
noncomputable def zK:Cx:=⟨Tryz.prog,[],[]⟩
theorem IV:∀ x,aM zK xp none Tryz.f172 jx x=jx.m x:=by intro x;kernel_rfl
theorem Ky:au Tryz.prog 172:=an (fn:=Tryz.f172) (by kernel_rfl) rfl (by decide)
theorem KG:aD Tryz.prog 172 jx:=aA (X:=zK) (.nil _) (by kernel_rfl) jx xp none (by kernel_rfl) (fun x y h=>(IV x).trans h)
def vk:List (Nat×Ann):=[(300002,⟨[(27,.val .bool)],[],[],fun _=>0⟩)]
noncomputable def iW:az:=⟨[.box [.val bp,.val (.slice ay),.map tI .hnd,.row 133 ax,.row 177 bZ,.val tI],.val .hnd,.val tI,.ar aB],[.val tI],fun x=>oP x.1 x.2.1 x.2.2.1 x.2.2.2.1⟩
noncomputable def xQ:Cx:=⟨Tryz.prog,[],[]⟩
theorem HF:∀ x,aM xQ vk none Tryz.f173 iW x=iW.m x:=by intro x;kernel_rfl
theorem Ja:au Tryz.prog 173:=an (fn:=Tryz.f173) (by kernel_rfl) rfl (by decide)
theorem Jn:aD Tryz.prog 173 iW:=aA (X:=xQ) (.nil _) (by kernel_rfl) iW vk none (by kernel_rfl) (fun x y h=>(HF x).trans h)
def tw:List (Nat×Ann):=[]
noncomputable def fS:az:=⟨[.box [.val bp,.val (.slice ay),.map tI .hnd,.row 133 ax,.row 177 bZ,.val tI],.val .hnd,.val ay,.ar aB],[.val tI],fun x=>jr x.1 x.2.1 x.2.2.1 x.2.2.2.1⟩
noncomputable def vn:Cx:=⟨Tryz.prog,[(69,iu)],[]⟩
theorem Fc:∀ x,aM vn tw none Tryz.f63 fS x=fS.m x:=by intro x;kernel_rfl
theorem vu:au Tryz.prog 63:=an (fn:=Tryz.f63) (by kernel_rfl) rfl (by decide)
theorem vD:aD Tryz.prog 63 fS:=aA (X:=vn) (.cons rF rq (.nil _)) (by kernel_rfl) fS tw none (by kernel_rfl) (fun x y h=>(Fc x).trans h)
def Ab:List (Nat×Ann):=[]
noncomputable def fh:az:=⟨[.val .hnd,.arR aB],[.val tI],fun x=>gB x.1 x.2.1⟩
noncomputable def Dr:Cx:=⟨Tryz.prog,[],[]⟩
theorem Ng:∀ x,aM Dr Ab none Tryz.f43 fh x=fh.m x:=by intro x;kernel_rfl
theorem lH:au Tryz.prog 43:=an (fn:=Tryz.f43) (by kernel_rfl) rfl (by decide)
theorem lK:aD Tryz.prog 43 fh:=aA (X:=Dr) (.nil _) (by kernel_rfl) fh Ab none (by kernel_rfl) (fun x y h=>(Ng x).trans h)
def sA:List (Nat×Ann):=[]
noncomputable def gE:az:=⟨[.box [.val bp,.val (.slice ay),.map tI .hnd,.row 133 ax,.row 177 bZ,.val tI],.val .hnd,.val ay,.ar aB],[.val tI],fun x=>lC x.1 x.2.1 x.2.2.1 x.2.2.2.1⟩
noncomputable def uJ:Cx:=⟨Tryz.prog,[(43,fh),(69,iu)],[]⟩
theorem Ej:∀ x,aM uJ sA none Tryz.f174 gE x=gE.m x:=by intro x;kernel_rfl
theorem Fk:au Tryz.prog 174:=an (fn:=Tryz.f174) (by kernel_rfl) rfl (by decide)
theorem Fs:aD Tryz.prog 174 gE:=aA (X:=uJ) (.cons lK lH (.cons rF rq (.nil _))) (by kernel_rfl) gE sA none (by kernel_rfl) (fun x y h=>(Ej x).trans h)
def vj:List (Nat×Ann):=[]
noncomputable def iV:az:=⟨[.box [.val bp,.val (.slice ay),.map tI .hnd,.row 133 ax,.row 177 bZ,.val tI],.val .hnd,.val ay,.ar aB],[.val tI],fun x=>oO x.1 x.2.1 x.2.2.1 x.2.2.2.1⟩
noncomputable def xP:Cx:=⟨Tryz.prog,[],[]⟩
theorem HE:∀ x,aM xP vj none Tryz.f175 iV x=iV.m x:=by intro x;kernel_rfl
theorem I9:au Tryz.prog 175:=an (fn:=Tryz.f175) (by kernel_rfl) rfl (by decide)
theorem Jm:aD Tryz.prog 175 iV:=aA (X:=xP) (.nil _) (by kernel_rfl) iV vj none (by kernel_rfl) (fun x y h=>(HE x).trans h)
def vi:List (Nat×Ann):=[]
noncomputable def iU:az:=⟨[.box [.val bp,.val (.slice ay),.map tI .hnd,.row 133 ax,.row 177 bZ,.val tI],.val .hnd,.val ay,.ar aB],[.val tI],fun x=>oN x.1 x.2.1 x.2.2.1 x.2.2.2.1⟩
noncomputable def xO:Cx:=⟨Tryz.prog,[(69,iu)],[]⟩
theorem HD:∀ x,aM xO vi none Tryz.f176 iU x=iU.m x:=by intro x;kernel_rfl
theorem I8:au Tryz.prog 176:=an (fn:=Tryz.f176) (by kernel_rfl) rfl (by decide)
theorem Jl:aD Tryz.prog 176 iU:=aA (X:=xO) (.cons rF rq (.nil _)) (by kernel_rfl) iU vi none (by kernel_rfl) (fun x y h=>(HD x).trans h)
def vh:List (Nat×Ann):=[(100011,⟨[(0,.ref 2000 0),(1,.val tI),(5,.ref 5 0),(6,.val .hnd),(31,.val tI),(36,.val .bool)],[(5,NI),(2000,acF)],[.rowC 10250004 133 ax,.rowC 10250005 177 bZ,.mapC 10250003 tI .hnd,.ar aB],fun _=>0⟩),
 (100015,⟨[(0,.ref 2000 0),(5,.ref 5 0),(6,.val .hnd),(31,.val tI),(44,.val .bool)],[(5,NI),(2000,acF)],[.rowC 10250004 133 ax,.rowC 10250005 177 bZ,.mapC 10250003 tI .hnd,.ar aB],fun _=>0⟩),
 (100017,⟨[(5,.ref 5 0),(6,.val .hnd),(7,.val tI)],[(5,NI),(2000,[.val .str,.val .str,.val .str,.val tI,.val tI,.val (.slice fm),.val (.slice ay),.map tI .hnd,.own 133 ax,.own 177 bZ,.val tI])],[.ar aB],fun _=>0⟩),
 (300021,⟨[(69,.val .bool)],[],[],fun _=>0⟩)]
noncomputable def iT:az:=⟨[.box [.val bp,.val (.slice ay),.map tI .hnd,.row 133 ax,.row 177 bZ,.val tI],.val tI,.ar aB],[.val tI],fun x=>aT x.1 x.2.1 x.2.2.1⟩
noncomputable def xN:Cx:=⟨Tryz.prog,[(63,fS),(69,iu),(172,jx),(173,iW),(174,gE),(175,iV),(176,iU),(177,jy)],[]⟩
theorem HC:∀ x,aM xN vh none Tryz.f113 iT x=iT.m x:=by intro x;kernel_rfl
theorem I7:au Tryz.prog 113:=an (fn:=Tryz.f113) (by kernel_rfl) rfl (by decide)
theorem Jk:aD Tryz.prog 113 iT:=aA (X:=xN) (.cons vD vu (.cons rF rq (.cons KG Ky (.cons Jn Ja (.cons Fs Fk (.cons Jm I9 (.cons Jl I8 (.cons DL DA (.nil _))))))))) (by kernel_rfl) iT vh none (by kernel_rfl) (fun x y h=>(HC x).trans h)
def Di:List (Nat×Ann):=[(1,⟨[(0,.val (.slice (.int .u32)))],[],[],aS _⟩),
 (200001,⟨[(0,.val (.slice (.int .u32)))],[],[],fun _=>0⟩)]
noncomputable def ji:az:=⟨[.val (.slice (.int .u32))],[.val (.slice (.int .u32))],fun x=>pM x.1⟩
noncomputable def Gf:Cx:=⟨Tryz.prog,[],[]⟩
theorem Qw:∀ x,aM Gf Di none Tryz.f139 ji x=ji.m x:=by intro x;kernel_rfl
theorem zb:au Tryz.prog 139:=an (fn:=Tryz.f139) (by kernel_rfl) rfl (by decide)
theorem zg:aD Tryz.prog 139 ji:=aA (X:=Gf) (.nil _) (by kernel_rfl) ji Di none (by kernel_rfl) (fun x y h=>(Qw x).trans h)
def HR:List (Nat×Ann):=[]
noncomputable def ja:az:=⟨[.val .bool,.val (.slice (.int .u32))],[.val dF],fun x=>jb x.1 x.2.1⟩
noncomputable def MN:Cx:=⟨Tryz.prog,[(139,ji)],[]⟩
theorem U9:∀ x,aM MN HR none Tryz.f137 ja x=ja.m x:=by intro x;kernel_rfl
theorem tH:au Tryz.prog 137:=an (fn:=Tryz.f137) (by kernel_rfl) rfl (by decide)
theorem tL:aD Tryz.prog 137 ja:=aA (X:=MN) (.cons zg zb (.nil _)) (by kernel_rfl) ja HR none (by kernel_rfl) (fun x y h=>(U9 x).trans h)
def MF:List (Nat×Ann):=[(100003,⟨[(0,.val tI),(2,.ref 2 0),(3,.val (.int .u64))],[(2,NH)],[],fun _=>0⟩)]
noncomputable def qM:az:=⟨[.val tI],[.val dF],fun x=>wF x.1⟩
noncomputable def Rf:Cx:=⟨Tryz.prog,[(137,ja)],[]⟩
theorem Yl:∀ x,aM Rf MF none Tryz.f85 qM x=qM.m x:=by intro x;kernel_rfl
theorem Je:au Tryz.prog 85:=an (fn:=Tryz.f85) (by kernel_rfl) rfl (by decide)
theorem Jr:aD Tryz.prog 85 qM:=aA (X:=Rf) (.cons tL tH (.nil _)) (by kernel_rfl) qM MF none (by kernel_rfl) (fun x y h=>(Yl x).trans h)
def JV:List (Nat×Ann):=[(6,⟨[(1,.val (.slice (.int .u32))),(5,.own 192 (.int .u32)),(6,.val (.int .u64)),(20,.val (.slice (.int .u32))),(21,.val tI),(22,.val tI)],[],[],aS _⟩),
 (100002,⟨[(0,.val (.slice (.int .u32))),(1,.val (.slice (.int .u32)))],[],[],fun _=>0⟩),
 (100010,⟨[(1,.val (.slice (.int .u32))),(5,.own 192 (.int .u32)),(6,.val (.int .u64)),(20,.val (.slice (.int .u32))),(21,.val tI),(22,.val tI)],[],[],fun _=>0⟩),
 (200006,⟨[(5,.own 192 (.int .u32)),(6,.val (.int .u64))],[],[],fun _=>0⟩)]
noncomputable def wm:az:=⟨[.val (.slice (.int .u32)),.val (.slice (.int .u32))],[.row 192 (.int .u32)],fun x=>IN x.1 x.2.1⟩
noncomputable def N7:Cx:=⟨Tryz.prog,[],[]⟩
theorem Xg:∀ x,aM N7 JV none Tryz.f138 wm x=wm.m x:=by intro x;kernel_rfl
theorem YC:au Tryz.prog 138:=an (fn:=Tryz.f138) (by kernel_rfl) rfl (by decide)
theorem Y7:aD Tryz.prog 138 wm:=aA (X:=N7) (.nil _) (by kernel_rfl) wm JV none (by kernel_rfl) (fun x y h=>(Xg x).trans h)
def FX:List (Nat×Ann):=[(6,⟨[(1,.val (.slice (.int .u32))),(5,.own 192 (.int .u32)),(6,.val (.int .u64)),(20,.val (.slice (.int .u32))),(21,.val tI),(22,.val tI)],[],[],aS _⟩),
 (100002,⟨[(0,.val (.slice (.int .u32))),(1,.val (.slice (.int .u32)))],[],[],fun _=>0⟩),
 (100010,⟨[(1,.val (.slice (.int .u32))),(5,.own 192 (.int .u32)),(6,.val (.int .u64)),(20,.val (.slice (.int .u32))),(21,.val tI),(22,.val tI)],[],[],fun _=>0⟩),
 (200006,⟨[(5,.own 192 (.int .u32)),(6,.val (.int .u64))],[],[],fun _=>0⟩)]
noncomputable def sj:az:=⟨[.val (.slice (.int .u32)),.val (.slice (.int .u32))],[.val (.slice (.int .u32))],fun x=>RG x.1 x.2.1⟩
noncomputable def Kl:Cx:=⟨Tryz.prog,[],[]⟩
theorem Tq:∀ x,aM Kl FX none Tryz.f138 sj x=sj.m x:=by intro x;kernel_rfl
theorem Vj:au Tryz.prog 138:=an (fn:=Tryz.f138) (by kernel_rfl) rfl (by decide)
theorem VA:aD Tryz.prog 138 sj:=aA (X:=Kl) (.nil _) (by kernel_rfl) sj FX none (by kernel_rfl) (fun x y h=>(Tq x).trans h)
def Dh:List (Nat×Ann):=[(4,⟨[(0,.val (.slice (.int .u32))),(1,.val (.slice (.int .u32))),(5,.val tI)],[],[],aS _⟩),
 (200004,⟨[],[],[],fun _=>0⟩)]
noncomputable def kW:az:=⟨[.val (.slice (.int .u32)),.val (.slice (.int .u32))],[.val tI],fun x=>tY x.1 x.2.1⟩
noncomputable def Ge:Cx:=⟨Tryz.prog,[],[]⟩
theorem Qv:∀ x,aM Ge Dh none Tryz.f140 kW x=kW.m x:=by intro x;kernel_rfl
theorem GA:au Tryz.prog 140:=an (fn:=Tryz.f140) (by kernel_rfl) rfl (by decide)
theorem GR:aD Tryz.prog 140 kW:=aA (X:=Ge) (.nil _) (by kernel_rfl) kW Dh none (by kernel_rfl) (fun x y h=>(Qv x).trans h)
def HQ:List (Nat×Ann):=[(4,⟨[(1,.val (.slice (.int .u32))),(5,.own 192 (.int .u32)),(6,.val (.int .u64)),(13,.val (.slice (.int .u32))),(14,.val tI),(15,.val tI)],[],[],aS _⟩),
 (100008,⟨[(1,.val (.slice (.int .u32))),(5,.own 192 (.int .u32)),(9,.val (.int .u64)),(13,.val (.slice (.int .u32))),(14,.val tI),(15,.val tI)],[],[],fun _=>0⟩),
 (200004,⟨[(5,.own 192 (.int .u32))],[],[],fun _=>0⟩)]
noncomputable def pK:az:=⟨[.val (.slice (.int .u32)),.val (.slice (.int .u32))],[.val (.slice (.int .u32))],fun x=>xk x.1 x.2.1⟩
noncomputable def MM:Cx:=⟨Tryz.prog,[(139,ji)],[]⟩
theorem U8:∀ x,aM MM HQ none Tryz.f141 pK x=pK.m x:=by intro x;kernel_rfl
theorem MT:au Tryz.prog 141:=an (fn:=Tryz.f141) (by kernel_rfl) rfl (by decide)
theorem MX:aD Tryz.prog 141 pK:=aA (X:=MM) (.cons zg zb (.nil _)) (by kernel_rfl) pK HQ none (by kernel_rfl) (fun x y h=>(U8 x).trans h)
def EL:List (Nat×Ann):=[(4,⟨[(2,.ref 2 0),(3,.ref 3 0),(4,.ref 4 0),(5,.ref 5 0),(6,.rowR 12),(7,.val (.slice (.int .u32))),(8,.val tI)],[(2,FZ),(3,FZ),(4,NH),(5,NH)],[.rowC 12 192 (.int .u32)],aS _⟩),
 (200004,⟨[(4,.ref 4 0),(5,.ref 5 0),(6,.rowR 12),(7,.val (.slice (.int .u32)))],[(4,NH),(5,NH)],[.rowC 12 192 (.int .u32)],fun _=>0⟩)]
noncomputable def qx:az:=⟨[.val dF,.val dF],[.val dF,.val dF],fun x=>wA x.1 x.2.1⟩
noncomputable def H9:Cx:=⟨Tryz.prog,[(137,ja),(138,wm),(139,ji),(140,kW),(141,pK)],[]⟩
theorem RY:∀ x,aM H9 EL none Tryz.f87 qx x=qx.m x:=by intro x;kernel_rfl
theorem TM:au Tryz.prog 87:=an (fn:=Tryz.f87) (by kernel_rfl) rfl (by decide)
theorem Uf:aD Tryz.prog 87 qx:=aA (X:=H9) (.cons tL tH (.cons Y7 YC (.cons zg zb (.cons GR GA (.cons MX MT (.nil _)))))) (by kernel_rfl) qx EL none (by kernel_rfl) (fun x y h=>(RY x).trans h)
def By:List (Nat×Ann):=[]
noncomputable def ku:az:=⟨[.val dF],[.val tI],fun x=>kX x.1⟩
noncomputable def EV:Cx:=⟨Tryz.prog,[],[]⟩
theorem Oh:∀ x,aM EV By none Tryz.f89 ku x=ku.m x:=by intro x;kernel_rfl
theorem EY:au Tryz.prog 89:=an (fn:=Tryz.f89) (by kernel_rfl) rfl (by decide)
theorem E7:aD Tryz.prog 89 ku:=aA (X:=EV) (.nil _) (by kernel_rfl) ku By none (by kernel_rfl) (fun x y h=>(Oh x).trans h)
def Af:List (Nat×Ann):=[]
noncomputable def jC:az:=⟨[.val dF],[.val dF],fun x=>qy x.1⟩
noncomputable def Dv:Cx:=⟨Tryz.prog,[(137,ja)],[]⟩
theorem Nk:∀ x,aM Dv Af none Tryz.f90 jC x=jC.m x:=by intro x;kernel_rfl
theorem DE:au Tryz.prog 90:=an (fn:=Tryz.f90) (by kernel_rfl) rfl (by decide)
theorem DP:aD Tryz.prog 90 jC:=aA (X:=Dv) (.cons tL tH (.nil _)) (by kernel_rfl) jC Af none (by kernel_rfl) (fun x y h=>(Nk x).trans h)
def Df:List (Nat×Ann):=[(5,⟨[(1,.val tI),(2,.ref 2 0),(6,.val (.int .u64)),(14,.val (.slice (.int .u32))),(15,.val tI),(16,.val tI)],[(2,FZ)],[],aS _⟩),
 (200005,⟨[(1,.val tI),(2,.ref 2 0),(6,.val (.int .u64))],[(2,FZ)],[],fun _=>0⟩)]
noncomputable def oE:az:=⟨[.val dF,.val tI],[.val tI,.val .bool],fun x=>yV x.1 x.2.1⟩
noncomputable def Gd:Cx:=⟨Tryz.prog,[],[]⟩
theorem Qu:∀ x,aM Gd Df none Tryz.f142 oE x=oE.m x:=by intro x;kernel_rfl
theorem Sh:au Tryz.prog 142:=an (fn:=Tryz.f142) (by kernel_rfl) rfl (by decide)
theorem Ss:aD Tryz.prog 142 oE:=aA (X:=Gd) (.nil _) (by kernel_rfl) oE Df none (by kernel_rfl) (fun x y h=>(Qu x).trans h)
def FL:List (Nat×Ann):=[]
noncomputable def nN:az:=⟨[.val dF,.val tI],[.val ax,.val tI],fun x=>qA x.1 x.2.1⟩
noncomputable def J9:Cx:=⟨Tryz.prog,[(142,oE)],[]⟩
theorem Tf:∀ x,aM J9 FL none Tryz.f91 nN x=nN.m x:=by intro x;kernel_rfl
theorem Kw:au Tryz.prog 91:=an (fn:=Tryz.f91) (by kernel_rfl) rfl (by decide)
theorem KE:aD Tryz.prog 91 nN:=aA (X:=J9) (.cons Ss Sh (.nil _)) (by kernel_rfl) nN FL none (by kernel_rfl) (fun x y h=>(Tf x).trans h)
def C9:List (Nat×Ann):=[(2,⟨[(1,.val tI),(2,.ref 2 0),(4,.ref 4 0),(6,.ref 6 0)],[(2,FZ),(4,[.val tI,.val tI]),(6,FZ)],[],aS _⟩),
 (200002,⟨[(1,.val tI),(2,.ref 2 0),(4,.ref 4 0)],[(2,FZ),(4,[.val tI,.val tI])],[],fun _=>0⟩)]
noncomputable def oy:az:=⟨[.val dF,.val tI],[.val ax,.val tI],fun x=>yD x.1 x.2.1⟩
noncomputable def F6:Cx:=⟨Tryz.prog,[(85,qM),(87,qx),(89,ku),(90,jC),(91,nN)],[]⟩
theorem Qo:∀ x,aM F6 C9 none Tryz.f108 oy x=oy.m x:=by intro x;kernel_rfl
theorem Sd:au Tryz.prog 108:=an (fn:=Tryz.f108) (by kernel_rfl) rfl (by decide)
theorem Sm:aD Tryz.prog 108 oy:=aA (X:=F6) (.cons Jr Je (.cons Uf TM (.cons E7 EY (.cons DP DE (.cons KE Kw (.nil _)))))) (by kernel_rfl) oy C9 none (by kernel_rfl) (fun x y h=>(Qo x).trans h)
end Go.Proofs.SeatA
