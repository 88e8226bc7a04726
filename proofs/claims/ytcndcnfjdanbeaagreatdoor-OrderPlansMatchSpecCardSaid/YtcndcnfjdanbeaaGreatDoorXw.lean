/-
  Each function that the law reaches is as its plain model says. No condition.
-/
import Derived.Test.YtcndcnfjdanbeaaGreatDoorXv
set_option linter.all false
set_option maxRecDepth 100000
namespace Go.Proofs.SeatA
open Go.Dn Go.Md Go.Proofs
def MX:List CK:=[.val .bool,.own 192 (.int .u32)]
def Fu:List CK:=[.val .bool,.val (.slice (.int .u32))]
def abV:List CK:=[.val .bool,.val .bool,.val .bool,.val .bool,.val .bool,.val .bool]
def abW:List CK:=[.val .str,.val .str,.val .str,.val tI,.val tI,.val (.slice fo),.val (.slice aF),.mapR 10,.own 133 ax,.own 177 bR,.val tI]
def abX:List CK:=[.val .str,.val .str,.val .str,.val tI,.val tI,.val (.slice fo),.val (.slice aF),.mapR 10250003,.rowR 10250004,.rowR 10250005,.val tI]
def MY:List CK:=[.val tI,.val tI,.val tI,.val tI,.val tI,.val .str,.val tI,.val tI,.val .str,.val tI,.val tI,.val tI,.val tI]
def GY:List (Nat×Ann):=[]
noncomputable def kE:az:=⟨[.val .str],[.val .bool],fun x=>fT x.1⟩
noncomputable def LQ:Cx:=⟨Tryz.prog,[(178,A6)],[]⟩
theorem TW:∀ x,aQ LQ GY none Tryz.f118 kE x=kE.m x:=by intro x;kernel_rfl
theorem yA:au Tryz.prog 118:=aq (fn:=Tryz.f118) (by kernel_rfl) rfl (by decide)
theorem yE:aE Tryz.prog 118 kE:=aB (X:=LQ) (.cons Tf SK (.nil _)) (by kernel_rfl) kE GY none (by kernel_rfl) (fun x y h=>(TW x).trans h)
def Fj:List (Nat×Ann):=[]
noncomputable def gx:az:=⟨[.val tI,.val tI,.val tI],[.val .bool],fun x=>fy x.1 x.2.1 x.2.2.1⟩
noncomputable def Jm:Cx:=⟨Tryz.prog,[],[]⟩
theorem Sk:∀ x,aQ Jm Fj none Tryz.f36 gx x=gx.m x:=by intro x;kernel_rfl
theorem nP:au Tryz.prog 36:=aq (fn:=Tryz.f36) (by kernel_rfl) rfl (by decide)
theorem nR:aE Tryz.prog 36 gx:=aB (X:=Jm) (.nil _) (by kernel_rfl) gx Fj none (by kernel_rfl) (fun x y h=>(Sk x).trans h)
def IU:List (Nat×Ann):=[]
noncomputable def jW:az:=⟨[.val tI],[.val .bool],fun x=>pZ x.1⟩
noncomputable def M9:Cx:=⟨Tryz.prog,[(36,gx)],[]⟩
theorem VU:∀ x,aQ M9 IU none Tryz.f56 jW x=jW.m x:=by intro x;kernel_rfl
theorem vr:au Tryz.prog 56:=aq (fn:=Tryz.f56) (by kernel_rfl) rfl (by decide)
theorem vC:aE Tryz.prog 56 jW:=aB (X:=M9) (.cons nR nP (.nil _)) (by kernel_rfl) jW IU none (by kernel_rfl) (fun x y h=>(VU x).trans h)
def ve:List (Nat×Ann):=[]
noncomputable def gw:az:=⟨[.val ax],[.val tI],fun x=>iG x.1⟩
noncomputable def xE:Cx:=⟨Tryz.prog,[(36,gx)],[]⟩
theorem GN:∀ x,aQ xE ve none Tryz.f136 gw x=gw.m x:=by intro x;kernel_rfl
theorem xN:au Tryz.prog 136:=aq (fn:=Tryz.f136) (by kernel_rfl) rfl (by decide)
theorem xT:aE Tryz.prog 136 gw:=aB (X:=xE) (.cons nR nP (.nil _)) (by kernel_rfl) gw ve none (by kernel_rfl) (fun x y h=>(GN x).trans h)
def Fk:List (Nat×Ann):=[(3,⟨[(3,.val tI),(4,.val tI),(5,.val tI)],[],[],aV _⟩),
 (200003,⟨[(3,.val tI)],[],[],fun _=>0⟩)]
noncomputable def nV:az:=⟨[.val tI],[.val tI],fun x=>Ci x.1⟩
noncomputable def Jn:Cx:=⟨Tryz.prog,[],[]⟩
theorem Sl:∀ x,aQ Jn Fk none Tryz.f120 nV x=nV.m x:=by intro x;kernel_rfl
theorem JI:au Tryz.prog 120:=aq (fn:=Tryz.f120) (by kernel_rfl) rfl (by decide)
theorem JR:aE Tryz.prog 120 nV:=aB (X:=Jn) (.nil _) (by kernel_rfl) nV Fk none (by kernel_rfl) (fun x y h=>(Sl x).trans h)
def D8:List (Nat×Ann):=[]
noncomputable def mM:az:=⟨[.val ax,.val tI,.val tI],[.val .bool],fun x=>rB x.1 x.2.1 x.2.2.1⟩
noncomputable def Ho:Cx:=⟨Tryz.prog,[(120,nV)],[]⟩
theorem QU:∀ x,aQ Ho D8 none Tryz.f179 mM x=mM.m x:=by intro x;kernel_rfl
theorem HA:au Tryz.prog 179:=aq (fn:=Tryz.f179) (by kernel_rfl) rfl (by decide)
theorem HH:aE Tryz.prog 179 mM:=aB (X:=Ho) (.cons JR JI (.nil _)) (by kernel_rfl) mM D8 none (by kernel_rfl) (fun x y h=>(QU x).trans h)
def vf:List (Nat×Ann):=[]
noncomputable def fA:az:=⟨[.val ax,.val .bool],[.val tI],fun x=>iJ x.1 x.2.1⟩
noncomputable def xF:Cx:=⟨Tryz.prog,[(136,gw),(179,mM)],[]⟩
theorem GO:∀ x,aQ xF vf none Tryz.f119 fA x=fA.m x:=by intro x;kernel_rfl
theorem qw:au Tryz.prog 119:=aq (fn:=Tryz.f119) (by kernel_rfl) rfl (by decide)
theorem qy:aE Tryz.prog 119 fA:=aB (X:=xF) (.cons xT xN (.cons HH HA (.nil _))) (by kernel_rfl) fA vf none (by kernel_rfl) (fun x y h=>(GO x).trans h)
def zx:List (Nat×Ann):=[]
noncomputable def iN:az:=⟨[.val ax],[.val tI],fun x=>oo x.1⟩
noncomputable def Bo:Cx:=⟨Tryz.prog,[(136,gw),(179,mM)],[]⟩
theorem Kq:∀ x,aQ Bo zx none Tryz.f199 iN x=iN.m x:=by intro x;kernel_rfl
theorem Bv:au Tryz.prog 199:=aq (fn:=Tryz.f199) (by kernel_rfl) rfl (by decide)
theorem Bx:aE Tryz.prog 199 iN:=aB (X:=Bo) (.cons xT xN (.cons HH HA (.nil _))) (by kernel_rfl) iN zx none (by kernel_rfl) (fun x y h=>(Kq x).trans h)
def z7:List (Nat×Ann):=[(300004,⟨[(17,.val .bool)],[],[],fun _=>0⟩)]
noncomputable def l7:az:=⟨[.val bB,.val tI],[.val tI],fun x=>uP x.1 x.2.1⟩
noncomputable def CZ:Cx:=⟨Tryz.prog,[(36,gx),(118,kE),(119,fA),(199,iN)],[]⟩
theorem Mu:∀ x,aQ CZ z7 none Tryz.f171 l7 x=l7.m x:=by intro x;kernel_rfl
theorem NI:au Tryz.prog 171:=aq (fn:=Tryz.f171) (by kernel_rfl) rfl (by decide)
theorem Oe:aE Tryz.prog 171 l7:=aB (X:=CZ) (.cons nR nP (.cons yE yA (.cons qy qw (.cons Bx Bv (.nil _))))) (by kernel_rfl) l7 z7 none (by kernel_rfl) (fun x y h=>(Mu x).trans h)
def zw:List (Nat×Ann):=[(12,⟨[(1,.ref 1 0),(50,.val tI),(51,.val tI)],[(1,[.val .str,.val .str,.val .str,.val tI,.val tI,.val (.slice fo)])],[],aV _⟩),
 (200012,⟨[],[],[],fun _=>0⟩)]
noncomputable def kQ:az:=⟨[.val bB],[.val tI],fun x=>sM x.1⟩
noncomputable def Bn:Cx:=⟨Tryz.prog,[(36,gx),(56,jW),(118,kE),(171,l7)],[]⟩
theorem Kp:∀ x,aQ Bn zw none Tryz.f112 kQ x=kQ.m x:=by intro x;kernel_rfl
theorem MB:au Tryz.prog 112:=aq (fn:=Tryz.f112) (by kernel_rfl) rfl (by decide)
theorem ME:aE Tryz.prog 112 kQ:=aB (X:=Bn) (.cons nR nP (.cons vC vr (.cons yE yA (.cons Oe NI (.nil _))))) (by kernel_rfl) kQ zw none (by kernel_rfl) (fun x y h=>(Kp x).trans h)
def zZ:List (Nat×Ann):=[]
noncomputable def jx:az:=⟨[.val tI],[.val .bool],fun x=>qc x.1⟩
noncomputable def CX:Cx:=⟨Tryz.prog,[],[]⟩
theorem Ms:∀ x,aQ CX zZ none Tryz.f177 jx x=jx.m x:=by intro x;kernel_rfl
theorem Df:au Tryz.prog 177:=aq (fn:=Tryz.f177) (by kernel_rfl) rfl (by decide)
theorem Dr:aE Tryz.prog 177 jx:=aB (X:=CX) (.nil _) (by kernel_rfl) jx zZ none (by kernel_rfl) (fun x y h=>(Ms x).trans h)
def D7:List (Nat×Ann):=[]
noncomputable def mL:az:=⟨[.val tI],[.val YA],fun x=>vH x.1⟩
noncomputable def Hl:Cx:=⟨Tryz.prog,[],[]⟩
theorem QT:∀ x,aQ Hl D7 none Tryz.f62 mL x=mL.m x:=by intro x;kernel_rfl
theorem Hz:au Tryz.prog 62:=aq (fn:=Tryz.f62) (by kernel_rfl) rfl (by decide)
theorem HG:aE Tryz.prog 62 mL:=aB (X:=Hl) (.nil _) (by kernel_rfl) mL D7 none (by kernel_rfl) (fun x y h=>(QT x).trans h)
def Aa:List (Nat×Ann):=[(100003,⟨[(1,.ref 1 0),(3,.ref 3 0)],[(1,MY),(3,abV)],[],fun _=>0⟩),
 (100007,⟨[(1,.ref 1 0),(3,.ref 3 0)],[(1,MY),(3,abV)],[],fun _=>0⟩),
 (300011,⟨[(30,.val .bool)],[],[],fun _=>0⟩),
 (300013,⟨[(39,.val .bool)],[],[],fun _=>0⟩),
 (300015,⟨[(58,.val .bool)],[],[],fun _=>0⟩),
 (300017,⟨[(66,.val .bool)],[],[],fun _=>0⟩)]
noncomputable def l8:az:=⟨[.val aF],[.val tI],fun x=>uQ x.1⟩
noncomputable def C7:Cx:=⟨Tryz.prog,[(36,gx),(56,jW),(62,mL),(118,kE),(119,fA),(199,iN)],[]⟩
theorem Mw:∀ x,aQ C7 Aa none Tryz.f180 l8 x=l8.m x:=by intro x;kernel_rfl
theorem NJ:au Tryz.prog 180:=aq (fn:=Tryz.f180) (by kernel_rfl) rfl (by decide)
theorem Of:aE Tryz.prog 180 l8:=aB (X:=C7) (.cons nR nP (.cons vC vr (.cons HG Hz (.cons yE yA (.cons qy qw (.cons Bx Bv (.nil _))))))) (by kernel_rfl) l8 Aa none (by kernel_rfl) (fun x y h=>(Mw x).trans h)
def zY:List (Nat×Ann):=[]
noncomputable def lZ:az:=⟨[.val aF],[.val tI],fun x=>uO x.1⟩
noncomputable def CW:Cx:=⟨Tryz.prog,[(36,gx),(56,jW),(177,jx),(180,l8)],[]⟩
theorem Mq:∀ x,aQ CW zY none Tryz.f124 lZ x=lZ.m x:=by intro x;kernel_rfl
theorem NG:au Tryz.prog 124:=aq (fn:=Tryz.f124) (by kernel_rfl) rfl (by decide)
theorem Oc:aE Tryz.prog 124 lZ:=aB (X:=CW) (.cons nR nP (.cons vC vr (.cons Dr Df (.cons Of NJ (.nil _))))) (by kernel_rfl) lZ zY none (by kernel_rfl) (fun x y h=>(Mq x).trans h)
def xb:List (Nat×Ann):=[(2,⟨[(22,.rowR 22),(23,.val tI),(24,.val tI)],[],[.rowC 22 3 tI],aV _⟩),
 (200002,⟨[],[],[],fun _=>0⟩)]
noncomputable def jv:az:=⟨[.val aF,.val aF],[.val tI],fun x=>lU x.1 x.2.1⟩
noncomputable def zF:Cx:=⟨Tryz.prog,[],[]⟩
theorem H7:∀ x,aQ zF xb none Tryz.f125 jv x=jv.m x:=by intro x;kernel_rfl
theorem JG:au Tryz.prog 125:=aq (fn:=Tryz.f125) (by kernel_rfl) rfl (by decide)
theorem JP:aE Tryz.prog 125 jv:=aB (X:=zF) (.nil _) (by kernel_rfl) jv xb none (by kernel_rfl) (fun x y h=>(H7 x).trans h)
def zu:List (Nat×Ann):=[(5,⟨[(0,.val (.slice aF)),(3,.ref 3 0),(11,.val (.slice aF)),(12,.val tI),(13,.val tI)],[(3,[.val tI,.val tI,.val tI])],[],aV _⟩),
 (200005,⟨[],[],[],fun _=>0⟩),
 (300010,⟨[(34,.val .bool)],[],[],fun _=>0⟩)]
noncomputable def iM:az:=⟨[.val (.slice aF)],[.val tI],fun x=>om x.1⟩
noncomputable def Bl:Cx:=⟨Tryz.prog,[(124,lZ),(125,jv)],[]⟩
theorem Ko:∀ x,aQ Bl zu none Tryz.f75 iM x=iM.m x:=by intro x;kernel_rfl
theorem Bu:au Tryz.prog 75:=aq (fn:=Tryz.f75) (by kernel_rfl) rfl (by decide)
theorem Bw:aE Tryz.prog 75 iM:=aB (X:=Bl) (.cons Oc NG (.cons JP JG (.nil _))) (by kernel_rfl) iM zu none (by kernel_rfl) (fun x y h=>(Ko x).trans h)
def CL:List (Nat×Ann):=[]
noncomputable def ld:az:=⟨[.val bB,.val (.slice aF)],[.val tI],fun x=>tF x.1 x.2.1⟩
noncomputable def Fx:Cx:=⟨Tryz.prog,[(75,iM),(112,kQ)],[]⟩
theorem Pw:∀ x,aQ Fx CL none Tryz.f55 ld x=ld.m x:=by intro x;kernel_rfl
theorem FO:au Tryz.prog 55:=aq (fn:=Tryz.f55) (by kernel_rfl) rfl (by decide)
theorem Gc:aE Tryz.prog 55 ld:=aB (X:=Fx) (.cons Bw Bu (.cons ME MB (.nil _))) (by kernel_rfl) ld CL none (by kernel_rfl) (fun x y h=>(Pw x).trans h)
def Fl:List (Nat×Ann):=[]
noncomputable def gy:az:=⟨[.val ax],[.val tI],fun x=>ic x.1⟩
noncomputable def Jo:Cx:=⟨Tryz.prog,[(120,nV)],[]⟩
theorem Sm:∀ x,aQ Jo Fl none Tryz.f69 gy x=gy.m x:=by intro x;kernel_rfl
theorem nQ:au Tryz.prog 69:=aq (fn:=Tryz.f69) (by kernel_rfl) rfl (by decide)
theorem nS:aE Tryz.prog 69 gy:=aB (X:=Jo) (.cons JR JI (.nil _)) (by kernel_rfl) gy Fl none (by kernel_rfl) (fun x y h=>(Sm x).trans h)
def xz:List (Nat×Ann):=[(3,⟨[(5,.ref 12 0),(14,.val (.slice fo)),(15,.val tI),(16,.val tI)],[(12,abW)],[.mapC 10 tI .hnd,.ar aC],aV _⟩),
 (200003,⟨[(5,.ref 12 0)],[(12,abW)],[.mapC 10 tI .hnd,.ar aC],fun _=>0⟩)]
noncomputable def ir:az:=⟨[.val bB,.val (.slice aF),.ar aC],[.box [.val bB,.val (.slice aF),.map tI .hnd,.row 133 ax,.row 177 bR,.val tI]],fun x=>ko x.1 x.2.1 x.2.2.1⟩
noncomputable def Ag:Cx:=⟨Tryz.prog,[(69,gy)],[]⟩
theorem Jv:∀ x,aQ Ag xz none Tryz.f57 ir x=ir.m x:=by intro x;kernel_rfl
theorem Ar:au Tryz.prog 57:=aq (fn:=Tryz.f57) (by kernel_rfl) rfl (by decide)
theorem AA:aE Tryz.prog 57 ir:=aB (X:=Ag) (.cons nS nQ (.nil _)) (by kernel_rfl) ir xz none (by kernel_rfl) (fun x y h=>(Jv x).trans h)
def xd:List (Nat×Ann):=[]
noncomputable def jw:az:=⟨[.box [.val bB,.val (.slice aF),.map tI .hnd,.row 133 ax,.row 177 bR,.val tI],.val tI,.ar aC],[.val tI],fun x=>qb x.1 x.2.1 x.2.2.1⟩
noncomputable def zG:Cx:=⟨Tryz.prog,[],[]⟩
theorem H8:∀ x,aQ zG xd none Tryz.f172 jw x=jw.m x:=by intro x;kernel_rfl
theorem JH:au Tryz.prog 172:=aq (fn:=Tryz.f172) (by kernel_rfl) rfl (by decide)
theorem JQ:aE Tryz.prog 172 jw:=aB (X:=zG) (.nil _) (by kernel_rfl) jw xd none (by kernel_rfl) (fun x y h=>(H8 x).trans h)
def vj:List (Nat×Ann):=[(300002,⟨[(27,.val .bool)],[],[],fun _=>0⟩)]
noncomputable def iX:az:=⟨[.box [.val bB,.val (.slice aF),.map tI .hnd,.row 133 ax,.row 177 bR,.val tI],.val .hnd,.val tI,.ar aC],[.val tI],fun x=>oU x.1 x.2.1 x.2.2.1 x.2.2.2.1⟩
noncomputable def xJ:Cx:=⟨Tryz.prog,[],[]⟩
theorem GS:∀ x,aQ xJ vj none Tryz.f173 iX x=iX.m x:=by intro x;kernel_rfl
theorem Ii:au Tryz.prog 173:=aq (fn:=Tryz.f173) (by kernel_rfl) rfl (by decide)
theorem Ix:aE Tryz.prog 173 iX:=aB (X:=xJ) (.nil _) (by kernel_rfl) iX vj none (by kernel_rfl) (fun x y h=>(GS x).trans h)
def tg:List (Nat×Ann):=[]
noncomputable def gV:az:=⟨[.box [.val bB,.val (.slice aF),.map tI .hnd,.row 133 ax,.row 177 bR,.val tI],.val .hnd,.val aF,.ar aC],[.val tI],fun x=>mC x.1 x.2.1 x.2.2.1 x.2.2.2.1⟩
noncomputable def vm:Cx:=⟨Tryz.prog,[(69,gy)],[]⟩
theorem Eu:∀ x,aQ vm tg none Tryz.f63 gV x=gV.m x:=by intro x;kernel_rfl
theorem FP:au Tryz.prog 63:=aq (fn:=Tryz.f63) (by kernel_rfl) rfl (by decide)
theorem Gd:aE Tryz.prog 63 gV:=aB (X:=vm) (.cons nS nQ (.nil _)) (by kernel_rfl) gV tg none (by kernel_rfl) (fun x y h=>(Eu x).trans h)
def z8:List (Nat×Ann):=[]
noncomputable def gd:az:=⟨[.val .hnd,.arR aC],[.val tI],fun x=>iD x.1 x.2.1⟩
noncomputable def C6:Cx:=⟨Tryz.prog,[],[]⟩
theorem Mv:∀ x,aQ C6 z8 none Tryz.f43 gd x=gd.m x:=by intro x;kernel_rfl
theorem pS:au Tryz.prog 43:=aq (fn:=Tryz.f43) (by kernel_rfl) rfl (by decide)
theorem p9:aE Tryz.prog 43 gd:=aB (X:=C6) (.nil _) (by kernel_rfl) gd z8 none (by kernel_rfl) (fun x y h=>(Mv x).trans h)
def rX:List (Nat×Ann):=[]
noncomputable def gG:az:=⟨[.box [.val bB,.val (.slice aF),.map tI .hnd,.row 133 ax,.row 177 bR,.val tI],.val .hnd,.val aF,.ar aC],[.val tI],fun x=>lJ x.1 x.2.1 x.2.2.1 x.2.2.2.1⟩
noncomputable def uJ:Cx:=⟨Tryz.prog,[(43,gd),(69,gy)],[]⟩
theorem DN:∀ x,aQ uJ rX none Tryz.f174 gG x=gG.m x:=by intro x;kernel_rfl
theorem EB:au Tryz.prog 174:=aq (fn:=Tryz.f174) (by kernel_rfl) rfl (by decide)
theorem EJ:aE Tryz.prog 174 gG:=aB (X:=uJ) (.cons p9 pS (.cons nS nQ (.nil _))) (by kernel_rfl) gG rX none (by kernel_rfl) (fun x y h=>(DN x).trans h)
def vi:List (Nat×Ann):=[]
noncomputable def iW:az:=⟨[.box [.val bB,.val (.slice aF),.map tI .hnd,.row 133 ax,.row 177 bR,.val tI],.val .hnd,.val aF,.ar aC],[.val tI],fun x=>oT x.1 x.2.1 x.2.2.1 x.2.2.2.1⟩
noncomputable def xI:Cx:=⟨Tryz.prog,[],[]⟩
theorem GR:∀ x,aQ xI vi none Tryz.f175 iW x=iW.m x:=by intro x;kernel_rfl
theorem Ih:au Tryz.prog 175:=aq (fn:=Tryz.f175) (by kernel_rfl) rfl (by decide)
theorem Iw:aE Tryz.prog 175 iW:=aB (X:=xI) (.nil _) (by kernel_rfl) iW vi none (by kernel_rfl) (fun x y h=>(GR x).trans h)
def vh:List (Nat×Ann):=[]
noncomputable def iV:az:=⟨[.box [.val bB,.val (.slice aF),.map tI .hnd,.row 133 ax,.row 177 bR,.val tI],.val .hnd,.val aF,.ar aC],[.val tI],fun x=>oS x.1 x.2.1 x.2.2.1 x.2.2.2.1⟩
noncomputable def xH:Cx:=⟨Tryz.prog,[(69,gy)],[]⟩
theorem GQ:∀ x,aQ xH vh none Tryz.f176 iV x=iV.m x:=by intro x;kernel_rfl
theorem Ig:au Tryz.prog 176:=aq (fn:=Tryz.f176) (by kernel_rfl) rfl (by decide)
theorem Iv:aE Tryz.prog 176 iV:=aB (X:=xH) (.cons nS nQ (.nil _)) (by kernel_rfl) iV vh none (by kernel_rfl) (fun x y h=>(GQ x).trans h)
def vg:List (Nat×Ann):=[(100011,⟨[(0,.ref 2000 0),(1,.val tI),(5,.ref 5 0),(6,.val .hnd),(31,.val tI),(36,.val .bool)],[(5,MY),(2000,abX)],[.rowC 10250004 133 ax,.rowC 10250005 177 bR,.mapC 10250003 tI .hnd,.ar aC],fun _=>0⟩),
 (100015,⟨[(0,.ref 2000 0),(5,.ref 5 0),(6,.val .hnd),(31,.val tI),(44,.val .bool)],[(5,MY),(2000,abX)],[.rowC 10250004 133 ax,.rowC 10250005 177 bR,.mapC 10250003 tI .hnd,.ar aC],fun _=>0⟩),
 (100017,⟨[(5,.ref 5 0),(6,.val .hnd),(7,.val tI)],[(5,MY),(2000,[.val .str,.val .str,.val .str,.val tI,.val tI,.val (.slice fo),.val (.slice aF),.map tI .hnd,.own 133 ax,.own 177 bR,.val tI])],[.ar aC],fun _=>0⟩),
 (300021,⟨[(69,.val .bool)],[],[],fun _=>0⟩)]
noncomputable def iU:az:=⟨[.box [.val bB,.val (.slice aF),.map tI .hnd,.row 133 ax,.row 177 bR,.val tI],.val tI,.ar aC],[.val tI],fun x=>aR x.1 x.2.1 x.2.2.1⟩
noncomputable def xG:Cx:=⟨Tryz.prog,[(63,gV),(69,gy),(172,jw),(173,iX),(174,gG),(175,iW),(176,iV),(177,jx)],[]⟩
theorem GP:∀ x,aQ xG vg none Tryz.f113 iU x=iU.m x:=by intro x;kernel_rfl
theorem Ie:au Tryz.prog 113:=aq (fn:=Tryz.f113) (by kernel_rfl) rfl (by decide)
theorem Iu:aE Tryz.prog 113 iU:=aB (X:=xG) (.cons Gd FP (.cons nS nQ (.cons JQ JH (.cons Ix Ii (.cons EJ EB (.cons Iw Ih (.cons Iv Ig (.cons Dr Df (.nil _))))))))) (by kernel_rfl) iU vg none (by kernel_rfl) (fun x y h=>(GP x).trans h)
def CR:List (Nat×Ann):=[(1,⟨[(0,.val (.slice (.int .u32)))],[],[],aV _⟩),
 (200001,⟨[(0,.val (.slice (.int .u32)))],[],[],fun _=>0⟩)]
noncomputable def ji:az:=⟨[.val (.slice (.int .u32))],[.val (.slice (.int .u32))],fun x=>pM x.1⟩
noncomputable def FE:Cx:=⟨Tryz.prog,[],[]⟩
theorem PC:∀ x,aQ FE CR none Tryz.f139 ji x=ji.m x:=by intro x;kernel_rfl
theorem yY:au Tryz.prog 139:=aq (fn:=Tryz.f139) (by kernel_rfl) rfl (by decide)
theorem za:aE Tryz.prog 139 ji:=aB (X:=FE) (.nil _) (by kernel_rfl) ji CR none (by kernel_rfl) (fun x y h=>(PC x).trans h)
def Hg:List (Nat×Ann):=[]
noncomputable def ja:az:=⟨[.val .bool,.val (.slice (.int .u32))],[.val dL],fun x=>jb x.1 x.2.1⟩
noncomputable def LZ:Cx:=⟨Tryz.prog,[(139,ji)],[]⟩
theorem Ua:∀ x,aQ LZ Hg none Tryz.f137 ja x=ja.m x:=by intro x;kernel_rfl
theorem tv:au Tryz.prog 137:=aq (fn:=Tryz.f137) (by kernel_rfl) rfl (by decide)
theorem tE:aE Tryz.prog 137 ja:=aB (X:=LZ) (.cons za yY (.nil _)) (by kernel_rfl) ja Hg none (by kernel_rfl) (fun x y h=>(Ua x).trans h)
def LP:List (Nat×Ann):=[(100003,⟨[(0,.val tI),(2,.ref 2 0),(3,.val (.int .u64))],[(2,MX)],[],fun _=>0⟩)]
noncomputable def qK:az:=⟨[.val tI],[.val dL],fun x=>wA x.1⟩
noncomputable def Qi:Cx:=⟨Tryz.prog,[(137,ja)],[]⟩
theorem Xq:∀ x,aQ Qi LP none Tryz.f85 qK x=qK.m x:=by intro x;kernel_rfl
theorem Io:au Tryz.prog 85:=aq (fn:=Tryz.f85) (by kernel_rfl) rfl (by decide)
theorem IC:aE Tryz.prog 85 qK:=aB (X:=Qi) (.cons tE tv (.nil _)) (by kernel_rfl) qK LP none (by kernel_rfl) (fun x y h=>(Xq x).trans h)
def Jb:List (Nat×Ann):=[(6,⟨[(1,.val (.slice (.int .u32))),(5,.own 192 (.int .u32)),(6,.val (.int .u64)),(20,.val (.slice (.int .u32))),(21,.val tI),(22,.val tI)],[],[],aV _⟩),
 (100002,⟨[(0,.val (.slice (.int .u32))),(1,.val (.slice (.int .u32)))],[],[],fun _=>0⟩),
 (100010,⟨[(1,.val (.slice (.int .u32))),(5,.own 192 (.int .u32)),(6,.val (.int .u64)),(20,.val (.slice (.int .u32))),(21,.val tI),(22,.val tI)],[],[],fun _=>0⟩),
 (200006,⟨[(5,.own 192 (.int .u32)),(6,.val (.int .u64))],[],[],fun _=>0⟩)]
noncomputable def we:az:=⟨[.val (.slice (.int .u32)),.val (.slice (.int .u32))],[.row 192 (.int .u32)],fun x=>HX x.1 x.2.1⟩
noncomputable def Nl:Cx:=⟨Tryz.prog,[],[]⟩
theorem Wb:∀ x,aQ Nl Jb none Tryz.f138 we x=we.m x:=by intro x;kernel_rfl
theorem XF:au Tryz.prog 138:=aq (fn:=Tryz.f138) (by kernel_rfl) rfl (by decide)
theorem Yg:aE Tryz.prog 138 we:=aB (X:=Nl) (.nil _) (by kernel_rfl) we Jb none (by kernel_rfl) (fun x y h=>(Wb x).trans h)
def Fs:List (Nat×Ann):=[(6,⟨[(1,.val (.slice (.int .u32))),(5,.own 192 (.int .u32)),(6,.val (.int .u64)),(20,.val (.slice (.int .u32))),(21,.val tI),(22,.val tI)],[],[],aV _⟩),
 (100002,⟨[(0,.val (.slice (.int .u32))),(1,.val (.slice (.int .u32)))],[],[],fun _=>0⟩),
 (100010,⟨[(1,.val (.slice (.int .u32))),(5,.own 192 (.int .u32)),(6,.val (.int .u64)),(20,.val (.slice (.int .u32))),(21,.val tI),(22,.val tI)],[],[],fun _=>0⟩),
 (200006,⟨[(5,.own 192 (.int .u32)),(6,.val (.int .u64))],[],[],fun _=>0⟩)]
noncomputable def rS:az:=⟨[.val (.slice (.int .u32)),.val (.slice (.int .u32))],[.val (.slice (.int .u32))],fun x=>QH x.1 x.2.1⟩
noncomputable def Jt:Cx:=⟨Tryz.prog,[],[]⟩
theorem Su:∀ x,aQ Jt Fs none Tryz.f138 rS x=rS.m x:=by intro x;kernel_rfl
theorem Uj:au Tryz.prog 138:=aq (fn:=Tryz.f138) (by kernel_rfl) rfl (by decide)
theorem UA:aE Tryz.prog 138 rS:=aB (X:=Jt) (.nil _) (by kernel_rfl) rS Fs none (by kernel_rfl) (fun x y h=>(Su x).trans h)
def CQ:List (Nat×Ann):=[(4,⟨[(0,.val (.slice (.int .u32))),(1,.val (.slice (.int .u32))),(5,.val tI)],[],[],aV _⟩),
 (200004,⟨[],[],[],fun _=>0⟩)]
noncomputable def lg:az:=⟨[.val (.slice (.int .u32)),.val (.slice (.int .u32))],[.val tI],fun x=>tV x.1 x.2.1⟩
noncomputable def FD:Cx:=⟨Tryz.prog,[],[]⟩
theorem PB:∀ x,aQ FD CQ none Tryz.f140 lg x=lg.m x:=by intro x;kernel_rfl
theorem FV:au Tryz.prog 140:=aq (fn:=Tryz.f140) (by kernel_rfl) rfl (by decide)
theorem Gj:aE Tryz.prog 140 lg:=aB (X:=FD) (.nil _) (by kernel_rfl) lg CQ none (by kernel_rfl) (fun x y h=>(PB x).trans h)
def Hf:List (Nat×Ann):=[(4,⟨[(1,.val (.slice (.int .u32))),(5,.own 192 (.int .u32)),(6,.val (.int .u64)),(13,.val (.slice (.int .u32))),(14,.val tI),(15,.val tI)],[],[],aV _⟩),
 (100008,⟨[(1,.val (.slice (.int .u32))),(5,.own 192 (.int .u32)),(9,.val (.int .u64)),(13,.val (.slice (.int .u32))),(14,.val tI),(15,.val tI)],[],[],fun _=>0⟩),
 (200004,⟨[(5,.own 192 (.int .u32))],[],[],fun _=>0⟩)]
noncomputable def pK:az:=⟨[.val (.slice (.int .u32)),.val (.slice (.int .u32))],[.val (.slice (.int .u32))],fun x=>w8 x.1 x.2.1⟩
noncomputable def LY:Cx:=⟨Tryz.prog,[(139,ji)],[]⟩
theorem T9:∀ x,aQ LY Hf none Tryz.f141 pK x=pK.m x:=by intro x;kernel_rfl
theorem Mf:au Tryz.prog 141:=aq (fn:=Tryz.f141) (by kernel_rfl) rfl (by decide)
theorem Mj:aE Tryz.prog 141 pK:=aB (X:=LY) (.cons za yY (.nil _)) (by kernel_rfl) pK Hf none (by kernel_rfl) (fun x y h=>(T9 x).trans h)
def Ec:List (Nat×Ann):=[(4,⟨[(2,.ref 2 0),(3,.ref 3 0),(4,.ref 4 0),(5,.ref 5 0),(6,.rowR 12),(7,.val (.slice (.int .u32))),(8,.val tI)],[(2,Fu),(3,Fu),(4,MX),(5,MX)],[.rowC 12 192 (.int .u32)],aV _⟩),
 (200004,⟨[(4,.ref 4 0),(5,.ref 5 0),(6,.rowR 12),(7,.val (.slice (.int .u32)))],[(4,MX),(5,MX)],[.rowC 12 192 (.int .u32)],fun _=>0⟩)]
noncomputable def qp:az:=⟨[.val dL,.val dL],[.val dL,.val dL],fun x=>wm x.1 x.2.1⟩
noncomputable def Hs:Cx:=⟨Tryz.prog,[(137,ja),(138,we),(139,ji),(140,lg),(141,pK)],[]⟩
theorem QY:∀ x,aQ Hs Ec none Tryz.f87 qp x=qp.m x:=by intro x;kernel_rfl
theorem SM:au Tryz.prog 87:=aq (fn:=Tryz.f87) (by kernel_rfl) rfl (by decide)
theorem Tg:aE Tryz.prog 87 qp:=aB (X:=Hs) (.cons tE tv (.cons Yg XF (.cons za yY (.cons Gj FV (.cons Mj Mf (.nil _)))))) (by kernel_rfl) qp Ec none (by kernel_rfl) (fun x y h=>(QY x).trans h)
def Bk:List (Nat×Ann):=[]
noncomputable def ku:az:=⟨[.val dL],[.val tI],fun x=>lu x.1⟩
noncomputable def Ek:Cx:=⟨Tryz.prog,[],[]⟩
theorem Nw:∀ x,aQ Ek Bk none Tryz.f89 ku x=ku.m x:=by intro x;kernel_rfl
theorem Em:au Tryz.prog 89:=aq (fn:=Tryz.f89) (by kernel_rfl) rfl (by decide)
theorem Eo:aE Tryz.prog 89 ku:=aB (X:=Ek) (.nil _) (by kernel_rfl) ku Bk none (by kernel_rfl) (fun x y h=>(Nw x).trans h)
def Ad:List (Nat×Ann):=[]
noncomputable def jA:az:=⟨[.val dL],[.val dL],fun x=>qq x.1⟩
noncomputable def Da:Cx:=⟨Tryz.prog,[(137,ja)],[]⟩
theorem Mz:∀ x,aQ Da Ad none Tryz.f90 jA x=jA.m x:=by intro x;kernel_rfl
theorem Di:au Tryz.prog 90:=aq (fn:=Tryz.f90) (by kernel_rfl) rfl (by decide)
theorem Dt:aE Tryz.prog 90 jA:=aB (X:=Da) (.cons tE tv (.nil _)) (by kernel_rfl) jA Ad none (by kernel_rfl) (fun x y h=>(Mz x).trans h)
def CP:List (Nat×Ann):=[(5,⟨[(1,.val tI),(2,.ref 2 0),(6,.val (.int .u64)),(14,.val (.slice (.int .u32))),(15,.val tI),(16,.val tI)],[(2,Fu)],[],aV _⟩),
 (200005,⟨[(1,.val tI),(2,.ref 2 0),(6,.val (.int .u64))],[(2,Fu)],[],fun _=>0⟩)]
noncomputable def oH:az:=⟨[.val dL,.val tI],[.val tI,.val .bool],fun x=>yS x.1 x.2.1⟩
noncomputable def FC:Cx:=⟨Tryz.prog,[],[]⟩
theorem PA:∀ x,aQ FC CP none Tryz.f142 oH x=oH.m x:=by intro x;kernel_rfl
theorem Rh:au Tryz.prog 142:=aq (fn:=Tryz.f142) (by kernel_rfl) rfl (by decide)
theorem Rq:aE Tryz.prog 142 oH:=aB (X:=FC) (.nil _) (by kernel_rfl) oH CP none (by kernel_rfl) (fun x y h=>(PA x).trans h)
def Fg:List (Nat×Ann):=[]
noncomputable def nU:az:=⟨[.val dL,.val tI],[.val ax,.val tI],fun x=>qu x.1 x.2.1⟩
noncomputable def Jj:Cx:=⟨Tryz.prog,[(142,oH)],[]⟩
theorem Sh:∀ x,aQ Jj Fg none Tryz.f91 nU x=nU.m x:=by intro x;kernel_rfl
theorem JF:au Tryz.prog 91:=aq (fn:=Tryz.f91) (by kernel_rfl) rfl (by decide)
theorem JO:aE Tryz.prog 91 nU:=aB (X:=Jj) (.cons Rq Rh (.nil _)) (by kernel_rfl) nU Fg none (by kernel_rfl) (fun x y h=>(Sh x).trans h)
def CI:List (Nat×Ann):=[(2,⟨[(1,.val tI),(2,.ref 2 0),(4,.ref 4 0),(6,.ref 6 0)],[(2,Fu),(4,[.val tI,.val tI]),(6,Fu)],[],aV _⟩),
 (200002,⟨[(1,.val tI),(2,.ref 2 0),(4,.ref 4 0)],[(2,Fu),(4,[.val tI,.val tI])],[],fun _=>0⟩)]
noncomputable def oD:az:=⟨[.val dL,.val tI],[.val ax,.val tI],fun x=>yt x.1 x.2.1⟩
noncomputable def Fv:Cx:=⟨Tryz.prog,[(85,qK),(87,qp),(89,ku),(90,jA),(91,nU)],[]⟩
theorem Pu:∀ x,aQ Fv CI none Tryz.f108 oD x=oD.m x:=by intro x;kernel_rfl
theorem Rc:au Tryz.prog 108:=aq (fn:=Tryz.f108) (by kernel_rfl) rfl (by decide)
theorem Rm:aE Tryz.prog 108 oD:=aB (X:=Fv) (.cons IC Io (.cons Tg SM (.cons Eo Em (.cons Dt Di (.cons JO JF (.nil _)))))) (by kernel_rfl) oD CI none (by kernel_rfl) (fun x y h=>(Pu x).trans h)
end Go.Proofs.SeatA
