/-
  Each function that the law reaches is as its plain model says, third part. No condition.
-/
import Derived.Test.YtcndcnfjdanbeaaGreatDoorXy
set_option linter.all false
set_option maxRecDepth 100000
namespace Go.Proofs.SeatA
open Go.Dn Go.Md Go.Proofs
def Di:List CK:=[.val (.slice .str),.val .bool]
def Gp:List CK:=[.val .bool,.val .bool,.val .bool,.val .bool,.val .bool,.val .bool]
def RJ:List CK:=[.val .str,.val .str,.val .str,.val tI,.val tI,.val (.slice jA),.val (.slice aH),.mapR 28435,.rowR 28436,.rowR 28437,.val tI]
def RL:List CK:=[.val .str,.val .str,.val .str,.val tI,.val tI,.val (.slice jA),.val (.slice aH),.mapR 62739,.rowR 62740,.rowR 62741,.val tI]
def qR:List CK:=[.val tI,.val tI,.val tI,.val tI,.val tI,.val .str,.val tI,.val tI,.val .str,.val tI,.val tI,.val tI,.val tI]
def lC:List (Nat×Ann):=[]
noncomputable def dH:aB:=⟨[.val .str,.val .str],[.val .bool],fun x=>ou x.1 x.2.1⟩
noncomputable def mL:Cx:=⟨Tryz.prog,[],[]⟩
theorem uD:∀ x,aT mL lC none Tryz.f208 dH x=dH.m x:=by intro x;kernel_rfl
theorem uW:ay Tryz.prog 208:=av (fn:=Tryz.f208) (by kernel_rfl) rfl (by decide)
theorem u7:aI Tryz.prog 208 dH:=aG (X:=mL) (.nil _) (by kernel_rfl) dH lC none (by kernel_rfl) (fun x y h=>(uD x).trans h)
def lz:List (Nat×Ann):=[]
noncomputable def dD:aB:=⟨[.val .str,.val .str],[.val .str,.val .bool],fun x=>oo x.1 x.2.1⟩
noncomputable def mJ:Cx:=⟨Tryz.prog,[(208,dH)],[]⟩
theorem uB:∀ x,aT mJ lz none Tryz.f185 dD x=dD.m x:=by intro x;kernel_rfl
theorem uU:ay Tryz.prog 185:=av (fn:=Tryz.f185) (by kernel_rfl) rfl (by decide)
theorem u5:aI Tryz.prog 185 dD:=aG (X:=mJ) (.cons u7 uW (.nil _)) (by kernel_rfl) dD lz none (by kernel_rfl) (fun x y h=>(uB x).trans h)
def uJ:List (Nat×Ann):=[]
noncomputable def jy:aB:=⟨[.val .str,.val .str],[.val .str,.val .bool],fun x=>zT x.1 x.2.1⟩
noncomputable def wY:Cx:=⟨Tryz.prog,[(185,dD)],[]⟩
theorem Dy:∀ x,aT wY uJ none Tryz.f148 jy x=jy.m x:=by intro x;kernel_rfl
theorem EB:ay Tryz.prog 148:=av (fn:=Tryz.f148) (by kernel_rfl) rfl (by decide)
theorem EN:aI Tryz.prog 148 jy:=aG (X:=wY) (.cons u5 uU (.nil _)) (by kernel_rfl) jy uJ none (by kernel_rfl) (fun x y h=>(Dy x).trans h)
def C9:List (Nat×Ann):=[]
noncomputable def tu:aB:=⟨[.val .str],[.val (.slice .str),.val .bool],fun x=>MC x.1⟩
noncomputable def Gu:Cx:=⟨Tryz.prog,[(148,jy),(149,vS)],[]⟩
theorem M9:∀ x,aT Gu C9 none Tryz.f104 tu x=tu.m x:=by intro x;kernel_rfl
theorem Og:ay Tryz.prog 104:=av (fn:=Tryz.f104) (by kernel_rfl) rfl (by decide)
theorem OG:aI Tryz.prog 104 tu:=aG (X:=Gu) (.cons EN EB (.cons Bf AV (.nil _))) (by kernel_rfl) tu C9 none (by kernel_rfl) (fun x y h=>(M9 x).trans h)
def Da:List (Nat×Ann):=[(3,⟨[(4,.rowR 27920),(9,.rowR 27920),(10,.val tI),(11,.val tI)],[],[.rowC 27920 9 .str],bh _⟩),
 (200003,⟨[(4,.rowR 27920)],[],[.rowC 27920 9 .str],fun _=>0⟩)]
noncomputable def tv:aB:=⟨[.val .str],[.val (.slice .str),.val .bool],fun x=>MD x.1⟩
noncomputable def Gv:Cx:=⟨Tryz.prog,[(149,vS)],[]⟩
theorem Na:∀ x,aT Gv Da none Tryz.f150 tv x=tv.m x:=by intro x;kernel_rfl
theorem Oh:ay Tryz.prog 150:=av (fn:=Tryz.f150) (by kernel_rfl) rfl (by decide)
theorem OH:aI Tryz.prog 150 tv:=aG (X:=Gv) (.cons Bf AV (.nil _)) (by kernel_rfl) tv Da none (by kernel_rfl) (fun x y h=>(Na x).trans h)
def wj:List (Nat×Ann):=[]
noncomputable def fD:aB:=⟨[.box [.val (.slice .str),.val .bool]],[.val .str],fun x=>kg x.1⟩
noncomputable def xO:Cx:=⟨Tryz.prog,[],[]⟩
theorem Em:∀ x,aT xO wj none Tryz.f155 fD x=fD.m x:=by intro x;kernel_rfl
theorem nD:ay Tryz.prog 155:=av (fn:=Tryz.f155) (by kernel_rfl) rfl (by decide)
theorem nE:aI Tryz.prog 155 fD:=aG (X:=xO) (.nil _) (by kernel_rfl) fD wj none (by kernel_rfl) (fun x y h=>(Em x).trans h)
def uy:List (Nat×Ann):=[]
noncomputable def jc:aB:=⟨[.box [.val (.slice .str),.val .bool]],[.val tI],fun x=>iX x.1⟩
noncomputable def wz:Cx:=⟨Tryz.prog,[(155,fD),(187,FL)],[]⟩
theorem Cv:∀ x,aT wz uy none Tryz.f151 jc x=jc.m x:=by intro x;kernel_rfl
theorem DH:ay Tryz.prog 151:=av (fn:=Tryz.f151) (by kernel_rfl) rfl (by decide)
theorem DP:aI Tryz.prog 151 jc:=aG (X:=wz) (.cons nE nD (.cons Nj Nd (.nil _))) (by kernel_rfl) jc uy none (by kernel_rfl) (fun x y h=>(Cv x).trans h)
def yH:List (Nat×Ann):=[]
noncomputable def nu:aB:=⟨[],[.val (.slice .str)],fun x=>FJ ⟩
noncomputable def AF:Cx:=⟨Tryz.prog,[],[]⟩
theorem Im:∀ x,aT AF yH none Tryz.f153 nu x=nu.m x:=by intro x;kernel_rfl
theorem Jo:ay Tryz.prog 153:=av (fn:=Tryz.f153) (by kernel_rfl) rfl (by decide)
theorem Jx:aI Tryz.prog 153 nu:=aG (X:=AF) (.nil _) (by kernel_rfl) nu yH none (by kernel_rfl) (fun x y h=>(Im x).trans h)
def sM:List (Nat×Ann):=[(2,⟨[(0,.val (.slice .str)),(1,.val .str),(7,.val tI),(8,.val tI)],[],[],bh _⟩),
 (200002,⟨[],[],[],fun _=>0⟩)]
noncomputable def iH:aB:=⟨[.val (.slice .str),.val .str],[.val tI],fun x=>xU x.1 x.2.1⟩
noncomputable def uR:Cx:=⟨Tryz.prog,[],[]⟩
theorem BJ:∀ x,aT uR sM none Tryz.f188 iH x=iH.m x:=by intro x;kernel_rfl
theorem CE:ay Tryz.prog 188:=av (fn:=Tryz.f188) (by kernel_rfl) rfl (by decide)
theorem CQ:aI Tryz.prog 188 iH:=aG (X:=uR) (.nil _) (by kernel_rfl) iH sM none (by kernel_rfl) (fun x y h=>(BJ x).trans h)
def uH:List (Nat×Ann):=[]
noncomputable def jw:aB:=⟨[.box [.val (.slice .str),.val .bool],.val (.slice .str)],[.val tI],fun x=>uF x.1 x.2.1⟩
noncomputable def wW:Cx:=⟨Tryz.prog,[(155,fD),(188,iH)],[]⟩
theorem Dw:∀ x,aT wW uH none Tryz.f152 jw x=jw.m x:=by intro x;kernel_rfl
theorem Ez:ay Tryz.prog 152:=av (fn:=Tryz.f152) (by kernel_rfl) rfl (by decide)
theorem EL:aI Tryz.prog 152 jw:=aG (X:=wW) (.cons nE nD (.cons CQ CE (.nil _))) (by kernel_rfl) jw uH none (by kernel_rfl) (fun x y h=>(Dw x).trans h)
def wO:List (Nat×Ann):=[]
noncomputable def kX:aB:=⟨[],[.val (.slice .str)],fun x=>Ch ⟩
noncomputable def yQ:Cx:=⟨Tryz.prog,[],[]⟩
theorem FR:∀ x,aT yQ wO none Tryz.f154 kX x=kX.m x:=by intro x;kernel_rfl
theorem GN:ay Tryz.prog 154:=av (fn:=Tryz.f154) (by kernel_rfl) rfl (by decide)
theorem Hj:aI Tryz.prog 154 kX:=aG (X:=yQ) (.nil _) (by kernel_rfl) kX wO none (by kernel_rfl) (fun x y h=>(FR x).trans h)
def lB:List (Nat×Ann):=[]
noncomputable def dF:aB:=⟨[.val .str,.val .str],[.val .bool],fun x=>ot x.1 x.2.1⟩
noncomputable def mK:Cx:=⟨Tryz.prog,[],[]⟩
theorem uC:∀ x,aT mK lB none Tryz.f247 dF x=dF.m x:=by intro x;kernel_rfl
theorem uV:ay Tryz.prog 247:=av (fn:=Tryz.f247) (by kernel_rfl) rfl (by decide)
theorem u6:aI Tryz.prog 247 dF:=aG (X:=mK) (.nil _) (by kernel_rfl) dF lB none (by kernel_rfl) (fun x y h=>(uC x).trans h)
def lu:List (Nat×Ann):=[]
noncomputable def dB:aB:=⟨[.val .str,.val .str],[.val .str,.val .bool],fun x=>om x.1 x.2.1⟩
noncomputable def mI:Cx:=⟨Tryz.prog,[(247,dF)],[]⟩
theorem uA:∀ x,aT mI lu none Tryz.f232 dB x=dB.m x:=by intro x;kernel_rfl
theorem uT:ay Tryz.prog 232:=av (fn:=Tryz.f232) (by kernel_rfl) rfl (by decide)
theorem uZ:aI Tryz.prog 232 dB:=aG (X:=mI) (.cons u6 uV (.nil _)) (by kernel_rfl) dB lu none (by kernel_rfl) (fun x y h=>(uA x).trans h)
def uI:List (Nat×Ann):=[]
noncomputable def jx:aB:=⟨[.val .str,.val .str],[.val .str,.val .bool],fun x=>zS x.1 x.2.1⟩
noncomputable def wX:Cx:=⟨Tryz.prog,[(232,dB)],[]⟩
theorem Dx:∀ x,aT wX uI none Tryz.f214 jx x=jx.m x:=by intro x;kernel_rfl
theorem EA:ay Tryz.prog 214:=av (fn:=Tryz.f214) (by kernel_rfl) rfl (by decide)
theorem EM:aI Tryz.prog 214 jx:=aG (X:=wX) (.cons uZ uT (.nil _)) (by kernel_rfl) jx uI none (by kernel_rfl) (fun x y h=>(Dx x).trans h)
def nK:List (Nat×Ann):=[]
noncomputable def fC:aB:=⟨[.val .str,.val .str],[.val tI],fun x=>qV x.1 x.2.1⟩
noncomputable def o9:Cx:=⟨Tryz.prog,[(238,iB)],[]⟩
theorem wZ:∀ x,aT o9 nK none Tryz.f228 fC x=fC.m x:=by intro x;kernel_rfl
theorem xD:ay Tryz.prog 228:=av (fn:=Tryz.f228) (by kernel_rfl) rfl (by decide)
theorem xE:aI Tryz.prog 228 fC:=aG (X:=o9) (.cons u9 uX (.nil _)) (by kernel_rfl) fC nK none (by kernel_rfl) (fun x y h=>(wZ x).trans h)
def oZ:List (Nat×Ann):=[]
noncomputable def fM:aB:=⟨[.val .str,.val .str],[.val .str,.val .str,.val .bool],fun x=>sW x.1 x.2.1⟩
noncomputable def qg:Cx:=⟨Tryz.prog,[(228,fC)],[]⟩
theorem x4:∀ x,aT qg oZ none Tryz.f233 fM x=fM.m x:=by intro x;kernel_rfl
theorem yW:ay Tryz.prog 233:=av (fn:=Tryz.f233) (by kernel_rfl) rfl (by decide)
theorem zg:aI Tryz.prog 233 fM:=aG (X:=qg) (.cons xE xD (.nil _)) (by kernel_rfl) fM oZ none (by kernel_rfl) (fun x y h=>(x4 x).trans h)
def Az:List (Nat×Ann):=[]
noncomputable def pZ:aB:=⟨[.val .str,.val .str],[.val .str,.val .str,.val .bool],fun x=>IX x.1 x.2.1⟩
noncomputable def Dt:Cx:=⟨Tryz.prog,[(233,fM)],[]⟩
theorem Ke:∀ x,aT Dt Az none Tryz.f215 pZ x=pZ.m x:=by intro x;kernel_rfl
theorem LD:ay Tryz.prog 215:=av (fn:=Tryz.f215) (by kernel_rfl) rfl (by decide)
theorem LS:aI Tryz.prog 215 pZ:=aG (X:=Dt) (.cons zg yW (.nil _)) (by kernel_rfl) pZ Az none (by kernel_rfl) (fun x y h=>(Ke x).trans h)
def xF:List (Nat×Ann):=[(300001,⟨[(2,.val .bool)],[],[],fun _=>0⟩)]
noncomputable def mj:aB:=⟨[.val .str],[.val .bool],fun x=>C7 x.1⟩
noncomputable def zM:Cx:=⟨Tryz.prog,[(212,lQ)],[]⟩
theorem GA:∀ x,aT zM xF none Tryz.f216 mj x=mj.m x:=by intro x;kernel_rfl
theorem Is:ay Tryz.prog 216:=av (fn:=Tryz.f216) (by kernel_rfl) rfl (by decide)
theorem Iv:aI Tryz.prog 216 mj:=aG (X:=zM) (.cons xg B8 (.nil _)) (by kernel_rfl) mj xF none (by kernel_rfl) (fun x y h=>(GA x).trans h)
def As:List (Nat×Ann):=[(3,⟨[(0,.val .bool),(1,.val .str),(2,.val .str),(6,.ref 6 0),(8,.ref 8 0),(14,.val tI),(15,.val tI)],[(6,[.val tI,.val tI]),(8,[.val .bool,.val (.slice (.int .u32))])],[],bh _⟩),
 (200003,⟨[(0,.val .bool),(2,.val .str),(6,.ref 6 0),(8,.ref 8 0)],[(6,[.val tI,.val tI]),(8,[.val .bool,.val (.slice (.int .u32))])],[],fun _=>0⟩)]
noncomputable def pW:aB:=⟨[.val .bool,.val .str,.val .str],[.val az,.val tI],fun x=>Iy x.1 x.2.1 x.2.2.1⟩
noncomputable def Dl:Cx:=⟨Tryz.prog,[(85,oV),(86,lg),(89,jC),(90,jd),(91,mV),(92,mo)],[]⟩
theorem J7:∀ x,aT Dl As none Tryz.f217 pW x=pW.m x:=by intro x;kernel_rfl
theorem LA:ay Tryz.prog 217:=av (fn:=Tryz.f217) (by kernel_rfl) rfl (by decide)
theorem LP:aI Tryz.prog 217 pW:=aG (X:=Dl) (.cons CR CF (.cons Hp GQ (.cons zR zQ (.cons zi yY (.cons DL DD (.cons Ix Iu (.nil _))))))) (by kernel_rfl) pW As none (by kernel_rfl) (fun x y h=>(J7 x).trans h)
def wL:List (Nat×Ann):=[(300003,⟨[(40,.val .bool)],[],[],fun _=>0⟩)]
noncomputable def kV:aB:=⟨[.val .str],[.val az,.val tI],fun x=>BL x.1⟩
noncomputable def yN:Cx:=⟨Tryz.prog,[(212,lQ),(214,jx),(215,pZ),(216,mj),(217,pW)],[]⟩
theorem FO:∀ x,aT yN wL none Tryz.f189 kV x=kV.m x:=by intro x;kernel_rfl
theorem GL:ay Tryz.prog 189:=av (fn:=Tryz.f189) (by kernel_rfl) rfl (by decide)
theorem Hh:aI Tryz.prog 189 kV:=aG (X:=yN) (.cons xg B8 (.cons EM EA (.cons LS LD (.cons Iv Is (.cons LP LA (.nil _)))))) (by kernel_rfl) kV wL none (by kernel_rfl) (fun x y h=>(FO x).trans h)
def sK:List (Nat×Ann):=[]
noncomputable def iG:aB:=⟨[.box [.val (.slice .str),.val .bool]],[.val az],fun x=>rN x.1⟩
noncomputable def uQ:Cx:=⟨Tryz.prog,[(155,fD),(189,kV)],[]⟩
theorem BI:∀ x,aT uQ sK none Tryz.f156 iG x=iG.m x:=by intro x;kernel_rfl
theorem CD:ay Tryz.prog 156:=av (fn:=Tryz.f156) (by kernel_rfl) rfl (by decide)
theorem CP:aI Tryz.prog 156 iG:=aG (X:=uQ) (.cons nE nD (.cons Hh GL (.nil _))) (by kernel_rfl) iG sK none (by kernel_rfl) (fun x y h=>(BI x).trans h)
def xG:List (Nat×Ann):=[(100008,⟨[(2,.ref 2 0),(6,.ref 19 0),(7,.ref 7 0),(8,.ref 8 0)],[(2,qR),(7,qR),(8,Gp),(19,Di)],[],fun _=>0⟩),
 (100010,⟨[(2,.ref 2 0),(6,.ref 19 0),(7,.ref 7 0),(8,.ref 8 0)],[(2,qR),(7,qR),(8,Gp),(19,Di)],[],fun _=>0⟩),
 (100012,⟨[(2,.ref 2 0),(6,.ref 19 0),(7,.ref 7 0),(8,.ref 8 0)],[(2,qR),(7,qR),(8,Gp),(19,Di)],[],fun _=>0⟩),
 (100014,⟨[(2,.ref 2 0),(6,.ref 19 0),(7,.ref 7 0),(8,.ref 8 0)],[(2,qR),(7,qR),(8,Gp),(19,Di)],[],fun _=>0⟩),
 (100016,⟨[(2,.ref 2 0),(6,.ref 19 0),(7,.ref 7 0),(8,.ref 8 0)],[(2,qR),(7,qR),(8,Gp),(19,Di)],[],fun _=>0⟩),
 (100018,⟨[(2,.ref 2 0),(6,.ref 19 0),(7,.ref 7 0)],[(2,qR),(7,qR),(19,Di)],[],fun _=>0⟩)]
noncomputable def mm:aB:=⟨[.val .str],[.val aH,.val .bool],fun x=>DS x.1⟩
noncomputable def zN:Cx:=⟨Tryz.prog,[(62,lR),(150,tv),(151,jc),(152,jw),(153,nu),(154,kX),(155,fD),(156,iG)],[]⟩
theorem GB:∀ x,aT zN xG none Tryz.f105 mm x=mm.m x:=by intro x;kernel_rfl
theorem It:ay Tryz.prog 105:=av (fn:=Tryz.f105) (by kernel_rfl) rfl (by decide)
theorem Iw:aI Tryz.prog 105 mm:=aG (X:=zN) (.cons Ce B9 (.cons OH Oh (.cons DP DH (.cons EL Ez (.cons Jx Jo (.cons Hj GN (.cons nE nD (.cons CP CD (.nil _))))))))) (by kernel_rfl) mm xG none (by kernel_rfl) (fun x y h=>(GB x).trans h)
def BO:List (Nat×Ann):=[(6,⟨[(5,.val (.slice .str)),(6,.val .bool),(7,.own 54 aH),(21,.val (.slice .str)),(22,.val tI),(23,.val tI)],[],[],bh _⟩),
 (200006,⟨[(7,.own 54 aH)],[],[],fun _=>0⟩),
 (300009,⟨[(45,.val .bool)],[],[],fun _=>0⟩)]
noncomputable def rj:aB:=⟨[.val .str],[.row 54 aH,.val tI,.val tI],fun x=>KL x.1⟩
noncomputable def Fs:Cx:=⟨Tryz.prog,[(75,gm),(104,tu),(105,mm)],[]⟩
theorem Lp:∀ x,aT Fs BO none Tryz.f50 rj x=rj.m x:=by intro x;kernel_rfl
theorem Ng:ay Tryz.prog 50:=av (fn:=Tryz.f50) (by kernel_rfl) rfl (by decide)
theorem Nl:aI Tryz.prog 50 rj:=aG (X:=Fs) (.cons rL rJ (.cons OG Og (.cons Iw It (.nil _)))) (by kernel_rfl) rj BO none (by kernel_rfl) (fun x y h=>(Lp x).trans h)
def Fl:List (Nat×Ann):=[(300002,⟨[(0,.val .bool)],[],[],fun _=>0⟩)]
noncomputable def vh:aB:=⟨[],[.val .bool],fun x=>A8 ⟩
noncomputable def IB:Cx:=⟨Tryz.prog,[(50,rj)],[]⟩
theorem NZ:∀ x,aT IB Fl none Tryz.f16 vh x=vh.m x:=by intro x;kernel_rfl
theorem Pv:ay Tryz.prog 16:=av (fn:=Tryz.f16) (by kernel_rfl) rfl (by decide)
theorem PB:aI Tryz.prog 16 vh:=aG (X:=IB) (.cons Nl Ng (.nil _)) (by kernel_rfl) vh Fl none (by kernel_rfl) (fun x y h=>(NZ x).trans h)
end Go.Proofs.SeatA
set_option maxRecDepth 100000
namespace Go.Proofs.SeatA
open Go.Dn Go.Md Go.Proofs
def o8:List (Nat×Ann):=[]
noncomputable def dZ:aB:=⟨[.val .hnd,.val .hnd,.arR an],[.val tI],fun x=>dK x.1 x.2.1 x.2.2.1⟩
noncomputable def qh:Cx:=⟨Tryz.prog,[],[]⟩
theorem x5:∀ x,aT qh o8 none Tryz.f107 dZ x=dZ.m x:=by intro x;kernel_rfl
theorem qi:ay Tryz.prog 107:=av (fn:=Tryz.f107) (by kernel_rfl) rfl (by decide)
theorem qj:aI Tryz.prog 107 dZ:=aG (X:=qh) (.nil _) (by kernel_rfl) dZ o8 none (by kernel_rfl) (fun x y h=>(x5 x).trans h)
def iu:List (Nat×Ann):=[(1,⟨[(0,.rowR 10250000),(1,.val tI),(2,.val tI),(3,.val (.clo 107 .unit)),(8,.val tI)],[],[.rowC 10250000 68 .hnd,.arF an],bh _⟩),
 (4,⟨[(0,.rowR 10250000),(1,.val tI),(2,.val tI),(3,.val (.clo 107 .unit)),(8,.val tI),(9,.val tI)],[],[.rowC 10250000 68 .hnd,.arF an],bh _⟩),
 (200001,⟨[],[],[.rowC 10250000 68 .hnd,.arF an],fun _=>0⟩),
 (200004,⟨[(0,.rowR 10250000),(1,.val tI),(2,.val tI),(3,.val (.clo 107 .unit)),(8,.val tI)],[],[.rowC 10250000 68 .hnd,.arF an],fun _=>0⟩)]
noncomputable def bW:aB:=⟨[.mrow 68 .hnd,.val tI,.val tI,.val (.clo 107 .unit),.arR an],[],fun x=>cq x.1 x.2.1 x.2.2.1 x.2.2.2.1 x.2.2.2.2.1⟩
noncomputable def iU:Cx:=⟨Tryz.prog,[(107,dZ)],[]⟩
theorem pe:∀ x,aT iU iu none Tryz.f190 bW x=bW.m x:=by intro x;kernel_rfl
theorem pH:ay Tryz.prog 190:=av (fn:=Tryz.f190) (by kernel_rfl) rfl (by decide)
theorem pM:aI Tryz.prog 190 bW:=aG (X:=iU) (.cons qj qi (.nil _)) (by kernel_rfl) bW iu none (by kernel_rfl) (fun x y h=>(pe x).trans h)
def ji:List (Nat×Ann):=[(1,⟨[(0,.rowR 10250000),(1,.val tI),(2,.val tI),(3,.val tI),(10,.val tI)],[],[.rowC 10250000 68 .hnd,.arF an],bh _⟩),
 (200001,⟨[],[],[.rowC 10250000 68 .hnd,.arF an],fun _=>0⟩)]
noncomputable def cB:aB:=⟨[.mrow 68 .hnd,.val tI,.val tI,.val tI,.val (.clo 107 .unit),.arR an],[],fun x=>cc x.1 x.2.1 x.2.2.1 x.2.2.2.1 x.2.2.2.2.1 x.2.2.2.2.2.1⟩
noncomputable def jM:Cx:=⟨Tryz.prog,[],[]⟩
theorem qS:∀ x,aT jM ji none Tryz.f234 cB x=cB.m x:=by intro x;kernel_rfl
theorem rK:ay Tryz.prog 234:=av (fn:=Tryz.f234) (by kernel_rfl) rfl (by decide)
theorem rM:aI Tryz.prog 234 cB:=aG (X:=jM) (.nil _) (by kernel_rfl) cB ji none (by kernel_rfl) (fun x y h=>(qS x).trans h)
def ku:List (Nat×Ann):=[(2,⟨[(0,.rowR 10250000),(2,.val tI),(4,.val (.clo 107 .unit)),(10,.val tI),(11,.val tI)],[],[.rowC 10250000 68 .hnd,.arF an],bh _⟩),
 (200002,⟨[(0,.rowR 10250000),(2,.val tI),(4,.val (.clo 107 .unit)),(10,.val tI)],[],[.rowC 10250000 68 .hnd,.arF an],fun _=>0⟩)]
noncomputable def cV:aB:=⟨[.mrow 68 .hnd,.val tI,.val tI,.val tI,.val (.clo 107 .unit),.arR an],[],fun x=>fR x.1 x.2.1 x.2.2.1 x.2.2.2.1 x.2.2.2.2.1 x.2.2.2.2.2.1⟩
noncomputable def lD:Cx:=⟨Tryz.prog,[(234,cB)],[]⟩
theorem sQ:∀ x,aT lD ku none Tryz.f218 cV x=cV.m x:=by intro x;kernel_rfl
theorem tX:ay Tryz.prog 218:=av (fn:=Tryz.f218) (by kernel_rfl) rfl (by decide)
theorem uf:aI Tryz.prog 218 cV:=aG (X:=lD) (.cons rM rK (.nil _)) (by kernel_rfl) cV ku none (by kernel_rfl) (fun x y h=>(sQ x).trans h)
def jD:List (Nat×Ann):=[(3,⟨[(0,.rowR 10250000),(1,.val tI),(4,.val (.clo 107 .unit)),(10,.val tI),(11,.val tI)],[],[.rowC 10250000 68 .hnd,.arF an],bh _⟩),
 (9,⟨[(0,.rowR 10250000),(10,.val tI),(13,.val tI)],[],[.rowC 10250000 68 .hnd,.arF an],bh _⟩),
 (15,⟨[(0,.rowR 10250000),(2,.val tI),(4,.val (.clo 107 .unit)),(14,.val tI),(15,.val tI)],[],[.rowC 10250000 68 .hnd,.arF an],bh _⟩),
 (21,⟨[(0,.rowR 10250000),(14,.val tI),(17,.val tI)],[],[.rowC 10250000 68 .hnd,.arF an],bh _⟩),
 (33,⟨[(0,.rowR 10250000),(1,.val tI),(2,.val tI),(3,.val tI),(4,.val (.clo 107 .unit)),(18,.val tI),(19,.val tI),(20,.val tI),(21,.val tI),(22,.val tI)],[],[.rowC 10250000 68 .hnd,.arF an],bh _⟩),
 (100030,⟨[(0,.rowR 10250000),(1,.val tI),(2,.val tI),(3,.val tI),(4,.val (.clo 107 .unit)),(18,.val tI),(19,.val tI),(20,.val tI),(21,.val tI)],[],[.rowC 10250000 68 .hnd,.arF an],fun _=>0⟩),
 (100040,⟨[(0,.rowR 10250000),(1,.val tI),(3,.val tI),(4,.val (.clo 107 .unit)),(18,.val tI),(20,.val tI),(24,.val tI)],[],[.rowC 10250000 68 .hnd,.arF an],fun _=>0⟩),
 (100042,⟨[(0,.rowR 10250000),(3,.val tI),(4,.val (.clo 107 .unit)),(18,.val tI),(24,.val tI)],[],[.rowC 10250000 68 .hnd,.arF an],fun _=>0⟩),
 (200003,⟨[(0,.rowR 10250000),(1,.val tI),(10,.val tI)],[],[.rowC 10250000 68 .hnd,.arF an],fun _=>0⟩),
 (200009,⟨[],[],[.rowC 10250000 68 .hnd,.arF an],fun _=>0⟩),
 (200015,⟨[(0,.rowR 10250000),(2,.val tI),(14,.val tI)],[],[.rowC 10250000 68 .hnd,.arF an],fun _=>0⟩),
 (200021,⟨[],[],[.rowC 10250000 68 .hnd,.arF an],fun _=>0⟩),
 (200033,⟨[(0,.rowR 10250000),(1,.val tI),(2,.val tI),(3,.val tI),(4,.val (.clo 107 .unit)),(18,.val tI),(19,.val tI),(20,.val tI)],[],[.rowC 10250000 68 .hnd,.arF an],fun _=>0⟩)]
def bg:List PM:=[.mrow 68 .hnd,.val tI,.val tI,.val tI,.val (.clo 107 .unit),.arR an]
def bP:List RM:=[]
noncomputable def jN:List (Nat×aB):=[(107,dZ),(218,cV)]
noncomputable def kD:aB:=⟨bg,bP,fun x=>di x.1 x.2.1 x.2.2.1 x.2.2.2.1 x.2.2.2.2.1 x.2.2.2.2.2.1⟩
theorem rI:∀ (self:fO bg→Option (dh bg bP)) (x:fO bg),aT ⟨Tryz.prog,(191,⟨bg,bP,self⟩)::jN,[]⟩ jD none Tryz.f191 ⟨bg,bP,fun x=>bC self x.1 x.2.1 x.2.2.1 x.2.2.2.1 x.2.2.2.2.1 x.2.2.2.2.2.1⟩ x=bC self x.1 x.2.1 x.2.2.1 x.2.2.2.1 x.2.2.2.2.1 x.2.2.2.2.2.1:=by intro self x;kernel_rfl
theorem kC:ay Tryz.prog 191:=av (fn:=Tryz.f191) (by kernel_rfl) rfl (by decide)
theorem sB:aI Tryz.prog 191 kD:=Pr (ps:=bg) (rs:=bP) (m:=fun n x=>Bk (fun self x=>bC self x.1 x.2.1 x.2.2.1 x.2.2.2.1 x.2.2.2.2.1 x.2.2.2.2.2.1) n x) (Kq (P:=Tryz.prog) (specs:=jN) (ps:=bg) (rs:=bP) (.cons qj qi (.cons uf tX (.nil _))) (by kernel_rfl) (fun self x=>bC self x.1 x.2.1 x.2.2.1 x.2.2.2.1 x.2.2.2.2.1 x.2.2.2.2.2.1) jD none (by kernel_rfl) kC rI) (fun x=>fV x.1 x.2.1 x.2.2.1 x.2.2.2.1 x.2.2.2.2.1 x.2.2.2.2.2.1)
def kz:List (Nat×Ann):=[(2,⟨[(0,.rowR 10250000),(1,.val tI),(2,.val (.clo 107 .unit)),(6,.val tI),(7,.val tI),(8,.val tI)],[],[.rowC 10250000 68 .hnd,.arF an],bh _⟩),
 (7,⟨[(0,.rowR 10250000),(1,.val tI),(2,.val (.clo 107 .unit)),(6,.val tI)],[],[.rowC 10250000 68 .hnd,.arF an],bh _⟩),
 (9,⟨[(0,.rowR 10250000),(1,.val tI),(2,.val (.clo 107 .unit)),(6,.val tI),(7,.val tI),(8,.val tI)],[],[.rowC 10250000 68 .hnd,.arF an],bh _⟩),
 (200002,⟨[(0,.rowR 10250000),(1,.val tI),(2,.val (.clo 107 .unit)),(6,.val tI),(7,.val tI)],[],[.rowC 10250000 68 .hnd,.arF an],fun _=>0⟩),
 (200007,⟨[],[],[.rowC 10250000 68 .hnd,.arF an],fun _=>0⟩),
 (200009,⟨[(0,.rowR 10250000),(1,.val tI),(2,.val (.clo 107 .unit)),(6,.val tI),(7,.val tI)],[],[.rowC 10250000 68 .hnd,.arF an],fun _=>0⟩)]
noncomputable def cW:aB:=⟨[.mrow 68 .hnd,.val tI,.val (.clo 107 .unit),.arR an],[],fun x=>iP x.1 x.2.1 x.2.2.1 x.2.2.2.1⟩
noncomputable def lE:Cx:=⟨Tryz.prog,[(190,bW),(191,kD)],[]⟩
theorem sS:∀ x,aT lE kz none Tryz.f157 cW x=cW.m x:=by intro x;kernel_rfl
theorem tY:ay Tryz.prog 157:=av (fn:=Tryz.f157) (by kernel_rfl) rfl (by decide)
theorem ug:aI Tryz.prog 157 cW:=aG (X:=lE) (.cons pM pH (.cons sB kC (.nil _))) (by kernel_rfl) cW kz none (by kernel_rfl) (fun x y h=>(sS x).trans h)
def jK:List (Nat×Ann):=[]
noncomputable def cK:aB:=⟨[.mrow 68 .hnd,.val (.clo 107 .unit),.arR an],[],fun x=>dA x.1 x.2.1 x.2.2.1⟩
noncomputable def kL:Cx:=⟨Tryz.prog,[(157,cW)],[]⟩
theorem sA:∀ x,aT kL jK none Tryz.f106 cK x=cK.m x:=by intro x;kernel_rfl
theorem sV:ay Tryz.prog 106:=av (fn:=Tryz.f106) (by kernel_rfl) rfl (by decide)
theorem s7:aI Tryz.prog 106 cK:=aG (X:=kL) (.cons ug tY (.nil _)) (by kernel_rfl) cK jK none (by kernel_rfl) (fun x y h=>(sA x).trans h)
def qb:List (Nat×Ann):=[(3,⟨[(1,.val tI),(5,.own 68 .hnd),(9,.rowR 29968),(10,.val tI),(11,.val tI)],[(2000,RJ)],[.rowC 28436 133 az,.rowC 28437 177 bO,.rowC 29968 68 .hnd,.mapC 28435 tI .hnd,.ar an],bh _⟩),
 (200003,⟨[(5,.own 68 .hnd)],[(2000,RJ)],[.rowC 28436 133 az,.rowC 28437 177 bO,.mapC 28435 tI .hnd,.ar an],fun _=>0⟩),
 (300005,⟨[(25,.val .bool)],[],[],fun _=>0⟩)]
noncomputable def fB:aB:=⟨[.box [.val bE,.val (.slice aH),.map tI .hnd,.row 133 az,.row 177 bO,.val tI],.val tI,.ar an],[.row 68 .hnd],fun x=>iy x.1 x.2.1 x.2.2.1⟩
noncomputable def rU:Cx:=⟨Tryz.prog,[(31,gH),(43,eL),(106,cK)],[]⟩
theorem zy:∀ x,aT rU qb none Tryz.f51 fB x=fB.m x:=by intro x;kernel_rfl
theorem rX:ay Tryz.prog 51:=av (fn:=Tryz.f51) (by kernel_rfl) rfl (by decide)
theorem rY:aI Tryz.prog 51 fB:=aG (X:=rU) (.cons Bc AT (.cons kQ kN (.cons s7 sV (.nil _)))) (by kernel_rfl) fB qb none (by kernel_rfl) (fun x y h=>(zy x).trans h)
def Db:List (Nat×Ann):=[(6,⟨[(10,.own 48 qH),(25,.rowR 62736),(26,.val tI),(27,.val tI)],[],[.rowC 62736 68 .hnd,.ar an],bh _⟩),
 (200006,⟨[(10,.own 48 qH)],[],[.ar an],fun _=>0⟩)]
noncomputable def tw:aB:=⟨[.val bE,.val (.slice aH),.val tI],[.row 48 qH,.val tI],fun x=>Cg x.1 x.2.1 x.2.2.1⟩
noncomputable def Gx:Cx:=⟨Tryz.prog,[(30,nU),(30,rG),(43,eL),(51,fB),(52,lZ)],[]⟩
theorem Nb:∀ x,aT Gx Db (some an) Tryz.f17 tw x=tw.m x:=by intro x;kernel_rfl
theorem Oi:ay Tryz.prog 17:=av (fn:=Tryz.f17) (by kernel_rfl) rfl (by decide)
theorem OI:aI Tryz.prog 17 tw:=aG (X:=Gx) (.cons FF FD (.cons IP IL (.cons kQ kN (.cons rY rX (.cons zC zA (.nil _)))))) (by kernel_rfl) tw Db (some an) (by kernel_rfl) (fun x y h=>(Nb x).trans h)
def zI:List (Nat×Ann):=[(3,⟨[(1,.val tI),(5,.val tI),(8,.val (.slice aH)),(9,.val tI),(10,.val tI)],[],[],bh _⟩),
 (200003,⟨[(5,.val tI)],[],[],fun _=>0⟩)]
noncomputable def oD:aB:=⟨[.val (.slice aH),.val tI],[.val tI],fun x=>xo x.1 x.2.1⟩
noncomputable def BW:Cx:=⟨Tryz.prog,[],[]⟩
theorem Jf:∀ x,aT BW zI none Tryz.f61 oD x=oD.m x:=by intro x;kernel_rfl
theorem Ks:ay Tryz.prog 61:=av (fn:=Tryz.f61) (by kernel_rfl) rfl (by decide)
theorem KH:aI Tryz.prog 61 oD:=aG (X:=BW) (.nil _) (by kernel_rfl) oD zI none (by kernel_rfl) (fun x y h=>(Jf x).trans h)
def qQ:List (Nat×Ann):=[]
noncomputable def gI:aB:=⟨[.val (.slice aH)],[.row 54 aH],fun x=>lP x.1⟩
noncomputable def sP:Cx:=⟨Tryz.prog,[],[]⟩
theorem zY:∀ x,aT sP qQ none Tryz.f65 gI x=gI.m x:=by intro x;kernel_rfl
theorem AU:ay Tryz.prog 65:=av (fn:=Tryz.f65) (by kernel_rfl) rfl (by decide)
theorem Be:aI Tryz.prog 65 gI:=aG (X:=sP) (.nil _) (by kernel_rfl) gI qQ none (by kernel_rfl) (fun x y h=>(zY x).trans h)
end Go.Proofs.SeatA
set_option maxRecDepth 100000
namespace Go.Proofs.SeatA
open Go.Dn Go.Md Go.Proofs
def wh:List (Nat×Ann):=[(5,⟨[(3,.mapR 11),(12,.val (.slice mO)),(13,.val tI),(14,.val tI)],[],[.mapC 11 aM .bool],bh _⟩),
 (200005,⟨[],[],[],fun _=>0⟩)]
noncomputable def jV:aB:=⟨[.val (.slice mO)],[.val tI],fun x=>ni x.1⟩
noncomputable def xN:Cx:=⟨Tryz.prog,[(118,jG),(119,eP)],[]⟩
theorem El:∀ x,aT xN wh none Tryz.f68 jV x=jV.m x:=by intro x;kernel_rfl
theorem F6:ay Tryz.prog 68:=av (fn:=Tryz.f68) (by kernel_rfl) rfl (by decide)
theorem F9:aI Tryz.prog 68 jV:=aG (X:=xN) (.cons vu vq (.cons oM oK (.nil _))) (by kernel_rfl) jV wh none (by kernel_rfl) (fun x y h=>(El x).trans h)
def BN:List (Nat×Ann):=[(9,⟨[(2,.val tI),(10,.ref 25 0),(13,.mapR 36),(37,.val (.slice mO)),(38,.val tI),(39,.val tI)],[(25,RL)],[.rowC 62740 133 az,.rowC 62741 177 bO,.mapC 36 aM tI,.mapC 62739 tI .hnd,.ar an],bh _⟩),
 (15,⟨[(13,.mapR 36),(16,.own 48 qH),(55,.rowR 124176),(56,.val tI),(57,.val tI)],[],[.rowC 124176 68 .hnd,.mapC 36 aM tI,.ar an],bh _⟩),
 (200009,⟨[(2,.val tI),(10,.ref 25 0),(13,.mapR 36)],[(25,RL)],[.rowC 62740 133 az,.rowC 62741 177 bO,.mapC 36 aM tI,.mapC 62739 tI .hnd,.ar an],fun _=>0⟩),
 (200015,⟨[(16,.own 48 qH)],[],[.ar an],fun _=>0⟩)]
noncomputable def ri:aB:=⟨[.val bE,.val (.slice aH),.val tI,.val (.slice mO)],[.val (.slice qH),.val tI],fun x=>Ab x.1 x.2.1 x.2.2.1 x.2.2.2.1⟩
noncomputable def Fq:Cx:=⟨Tryz.prog,[(30,nU),(30,rG),(43,eL),(51,fB),(52,lZ),(68,jV),(69,gf)],[]⟩
theorem Lo:∀ x,aT Fq BN (some an) Tryz.f27 ri x=ri.m x:=by intro x;kernel_rfl
theorem Nf:ay Tryz.prog 27:=av (fn:=Tryz.f27) (by kernel_rfl) rfl (by decide)
theorem Nk:aI Tryz.prog 27 ri:=aG (X:=Fq) (.cons FF FD (.cons IP IL (.cons kQ kN (.cons rY rX (.cons zC zA (.cons F9 F6 (.cons mT mR (.nil _)))))))) (by kernel_rfl) ri BN (some an) (by kernel_rfl) (fun x y h=>(Lo x).trans h)
def Aw:List (Nat×Ann):=[(300014,⟨[(62,.val .bool)],[],[],fun _=>0⟩)]
noncomputable def pY:aB:=⟨[.val bE,.val (.slice aH),.val aH],[.val (.slice aH),.val tI],fun x=>yB x.1 x.2.1 x.2.2.1⟩
noncomputable def Dq:Cx:=⟨Tryz.prog,[(55,iQ),(57,fS),(58,fG),(61,oD),(65,gI),(75,gm)],[]⟩
theorem Ka:∀ x,aT Dq Aw (some an) Tryz.f29 pY x=pY.m x:=by intro x;kernel_rfl
theorem LC:ay Tryz.prog 29:=av (fn:=Tryz.f29) (by kernel_rfl) rfl (by decide)
theorem LR:aI Tryz.prog 29 pY:=aG (X:=Dq) (.cons vL vI (.cons qB qx (.cons pL pG (.cons KH Ks (.cons Be AU (.cons rL rJ (.nil _))))))) (by kernel_rfl) pY Aw (some an) (by kernel_rfl) (fun x y h=>(Ka x).trans h)
def nZ:List (Nat×Ann):=[(9,⟨[(3,.ref 3 0),(10,.val (.slice aH)),(51,.val (.slice qH)),(52,.val tI),(53,.val tI)],[(3,[.val .str,.val .str,.val .str,.val tI,.val tI,.val (.slice jA)])],[],bh _⟩),
 (200009,⟨[],[],[],fun _=>0⟩),
 (300003,⟨[(6,.val .bool)],[],[],fun _=>0⟩)]
noncomputable def gU:aB:=⟨[.val bE,.val (.slice aH),.val (.slice mO)],[.val .bool],fun x=>je x.1 x.2.1 x.2.2.1⟩
noncomputable def pF:Cx:=⟨Tryz.prog,[(16,vh),(17,tw),(27,ri),(29,pY)],[]⟩
theorem xC:∀ x,aT pF nZ none Tryz.f6 gU x=gU.m x:=by intro x;kernel_rfl
theorem yc:aI Tryz.prog 6 gU:=aG (X:=pF) (.cons PB Pv (.cons OI Oi (.cons Nk Nf (.cons LR LC (.nil _))))) (by kernel_rfl) gU nZ none (by kernel_rfl) (fun x y h=>(xC x).trans h)
end Go.Proofs.SeatA
