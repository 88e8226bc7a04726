/-
  Each function that the law reaches is as its plain model says, a further part. No condition.
-/
import Derived.Test.YtcpmaicaibdafaaGreatDoorXw
set_option linter.all false
set_option maxRecDepth 100000
namespace Go.Proofs.SeatA
open Go.Dn Go.Md Go.Proofs
def Ht:List CK:=[.val .bool,.own 203 (.int .u32)]
def sP:List CK:=[.val .bool,.val (.slice (.int .u32))]
def VX:List CK:=[.val .str,.val .str,.val .str,.val tI,.val tI,.val (.slice pz),.val (.slice aQ),.map tI .hnd,.own 244 ay,.own 258 dy,.val tI]
def VY:List CK:=[.val .str,.val .str,.val .str,.val tI,.val tI,.val (.slice pz),.val (.slice aQ),.mapR 10250003,.rowR 10250004,.rowR 10250005,.val tI]
def Oa:List CK:=[.val .str,.val .str,.val .str,.val tI,.val tI,.val (.slice pz),.val (.slice aQ),.val tI,.val tI,.val (.slice bn),.map tI (.slice b8),.map tI aX,.own 37 fm]
def Ob:List CK:=[.val tI,.val tI,.val tI,.val (.slice .str)]
def Hu:List CK:=[.val tI,.val tI]
def Ey:List (Nat×Ann):=[]
noncomputable def th:aA:=⟨[.val aX,.val tI],[.val ay,.val tI],fun x=>yd x.1 x.2.1⟩
noncomputable def Hw:Cx:=⟨Tryz.prog,[(121,qd)],[]⟩
theorem Oe:∀ x,aV Hw Ey none Tryz.f67 th x=th.m x:=by intro x;kernel_rfl
theorem PT:av Tryz.prog 67:=an (fn:=Tryz.f67) (by kernel_rfl) rfl (by decide)
theorem Qd:aH Tryz.prog 67 th:=aD (X:=Hw) (.cons NK Nw (.nil _)) (by kernel_rfl) th Ey none (by kernel_rfl) (fun x y h=>(Oe x).trans h)
def Cm:List (Nat×Ann):=[(2,⟨[(1,.val tI),(2,.ref 2 0),(4,.ref 4 0),(6,.ref 6 0)],[(2,sP),(4,Hu),(6,sP)],[],bp _⟩),
 (200002,⟨[(1,.val tI),(2,.ref 2 0),(4,.ref 4 0)],[(2,sP),(4,Hu)],[],fun _=>0⟩)]
noncomputable def mR:aA:=⟨[.val aX,.val tI],[.val ay,.val tI],fun x=>uy x.1 x.2.1⟩
noncomputable def EH:Cx:=⟨Tryz.prog,[(41,jx),(64,jZ),(67,th),(81,kX),(82,rE)],[]⟩
theorem Mh:∀ x,aV EH Cm none Tryz.f42 mR x=mR.m x:=by intro x;kernel_rfl
theorem EY:av Tryz.prog 42:=an (fn:=Tryz.f42) (by kernel_rfl) rfl (by decide)
theorem Fc:aH Tryz.prog 42 mR:=aD (X:=EH) (.cons x8 xZ (.cons rP rL (.cons Qd PT (.cons C6 CS (.cons OW OE (.nil _)))))) (by kernel_rfl) mR Cm none (by kernel_rfl) (fun x y h=>(Mh x).trans h)
def FX:List (Nat×Ann):=[]
noncomputable def uS:aA:=⟨[.val tI],[.val ay],fun x=>rj x.1⟩
noncomputable def Jx:Cx:=⟨Tryz.prog,[(42,mR),(64,jZ)],[]⟩
theorem PK:∀ x,aV Jx FX none Tryz.f103 uS x=uS.m x:=by intro x;kernel_rfl
theorem Rs:av Tryz.prog 103:=an (fn:=Tryz.f103) (by kernel_rfl) rfl (by decide)
theorem RB:aH Tryz.prog 103 uS:=aD (X:=Jx) (.cons Fc EY (.cons rP rL (.nil _))) (by kernel_rfl) uS FX none (by kernel_rfl) (fun x y h=>(PK x).trans h)
def DA:List (Nat×Ann):=[(1,⟨[(1,.ref 1 0),(2,.ref 2 0)],[(1,Hu),(2,Hu)],[],bp _⟩),
 (200001,⟨[(1,.ref 1 0),(2,.ref 2 0)],[(1,Hu),(2,Hu)],[],fun _=>0⟩),
 (300001,⟨[(11,.val .bool)],[],[],fun _=>0⟩)]
noncomputable def rC:aA:=⟨[.val ay],[.val ay],fun x=>Al x.1⟩
noncomputable def F8:Cx:=⟨Tryz.prog,[],[]⟩
theorem Ng:∀ x,aV F8 DA none Tryz.f104 rC x=rC.m x:=by intro x;kernel_rfl
theorem OB:av Tryz.prog 104:=an (fn:=Tryz.f104) (by kernel_rfl) rfl (by decide)
theorem OS:aH Tryz.prog 104 rC:=aD (X:=F8) (.nil _) (by kernel_rfl) rC DA none (by kernel_rfl) (fun x y h=>(Ng x).trans h)
def zM:List (Nat×Ann):=[]
noncomputable def jG:aA:=⟨[.val .hnd,.arR bO],[.val b8],fun x=>mO x.1 x.2.1⟩
noncomputable def Bx:Cx:=⟨Tryz.prog,[(103,uS),(104,rC),(105,kW)],[]⟩
theorem Ix:∀ x,aV Bx zM none Tryz.f60 jG x=jG.m x:=by intro x;kernel_rfl
theorem Bz:av Tryz.prog 60:=an (fn:=Tryz.f60) (by kernel_rfl) rfl (by decide)
theorem BC:aH Tryz.prog 60 jG:=aD (X:=Bx) (.cons RB Rs (.cons OS OB (.cons C5 CR (.nil _)))) (by kernel_rfl) jG zM none (by kernel_rfl) (fun x y h=>(Ix x).trans h)
def xP:List (Nat×Ann):=[(1,⟨[(0,.ref 2000 0),(1,.val tI),(10,.val (.slice aQ)),(11,.val tI),(12,.val tI)],[(2000,VX)],[.ar bO],bp _⟩),
 (200001,⟨[],[(2000,VX)],[.ar bO],fun _=>0⟩)]
noncomputable def iL:aA:=⟨[.box [.val bJ,.val (.slice aQ),.map tI .hnd,.row 244 ay,.row 258 dy,.val tI],.val tI,.ar bO],[],fun x=>kM x.1 x.2.1 x.2.2.1⟩
noncomputable def zT:Cx:=⟨Tryz.prog,[(60,jG),(171,jU)],[]⟩
theorem GD:∀ x,aV zT xP none Tryz.f100 iL x=iL.m x:=by intro x;kernel_rfl
theorem zW:av Tryz.prog 100:=an (fn:=Tryz.f100) (by kernel_rfl) rfl (by decide)
theorem zZ:aH Tryz.prog 100 iL:=aD (X:=zT) (.cons BC Bz (.cons GR GI (.nil _))) (by kernel_rfl) iL xP none (by kernel_rfl) (fun x y h=>(GD x).trans h)
def Jm:List (Nat×Ann):=[]
noncomputable def yH:aA:=⟨[.val bJ,.val (.slice aQ),.val tI,.ar bO],[.box [.val bJ,.val (.slice aQ),.map tI .hnd,.row 244 ay,.row 258 dy,.val tI],.val tI],fun x=>IZ x.1 x.2.1 x.2.2.1 x.2.2.2.1⟩
noncomputable def MK:Cx:=⟨Tryz.prog,[(37,gN),(98,mT),(99,jl),(100,iL)],[]⟩
theorem Sd:∀ x,aV MK Jm none Tryz.f58 yH x=yH.m x:=by intro x;kernel_rfl
theorem TE:av Tryz.prog 58:=an (fn:=Tryz.f58) (by kernel_rfl) rfl (by decide)
theorem TL:aH Tryz.prog 58 yH:=aD (X:=MK) (.cons nE nA (.cons Fg E3 (.cons AY AS (.cons zZ zW (.nil _))))) (by kernel_rfl) yH Jm none (by kernel_rfl) (fun x y h=>(Sd x).trans h)
def FW:List (Nat×Ann):=[]
noncomputable def uR:aA:=⟨[.val bJ,.val (.slice aQ),.val tI,.ar bO],[.val .hnd,.val tI],fun x=>Ed x.1 x.2.1 x.2.2.1 x.2.2.2.1⟩
noncomputable def Jw:Cx:=⟨Tryz.prog,[(37,gN),(98,mT),(99,jl),(100,iL)],[]⟩
theorem PJ:∀ x,aV Jw FW none Tryz.f58 uR x=uR.m x:=by intro x;kernel_rfl
theorem Rr:av Tryz.prog 58:=an (fn:=Tryz.f58) (by kernel_rfl) rfl (by decide)
theorem RA:aH Tryz.prog 58 uR:=aD (X:=Jw) (.cons nE nA (.cons Fg E3 (.cons AY AS (.cons zZ zW (.nil _))))) (by kernel_rfl) uR FW none (by kernel_rfl) (fun x y h=>(PJ x).trans h)
def uB:List (Nat×Ann):=[(3,⟨[(0,.ref 2000 0),(3,.own 134 .hnd),(11,.rowR 11),(12,.val tI),(13,.val tI)],[(2000,VY)],[.rowC 11 3 tI,.rowC 10250004 244 ay,.rowC 10250005 258 dy,.mapC 10250003 tI .hnd],bp _⟩),
 (200003,⟨[(3,.own 134 .hnd)],[(2000,VY)],[.rowC 10250004 244 ay,.rowC 10250005 258 dy,.mapC 10250003 tI .hnd],fun _=>0⟩)]
noncomputable def iY:aA:=⟨[.box [.val bJ,.val (.slice aQ),.map tI .hnd,.row 244 ay,.row 258 dy,.val tI]],[.row 134 .hnd],fun x=>ot x.1⟩
noncomputable def wu:Cx:=⟨Tryz.prog,[],[(101,Ue),(102,Uf)]⟩
theorem DZ:∀ x,aV wu uB none Tryz.f59 iY x=iY.m x:=by intro x;kernel_rfl
theorem E5:av Tryz.prog 59:=an (fn:=Tryz.f59) (by kernel_rfl) rfl (by decide)
theorem Fi:aH Tryz.prog 59 iY:=aD (X:=wu) (.UT Yw Yt (.UT Yx Yu (.nil _))) (by kernel_rfl) iY uB none (by kernel_rfl) (fun x y h=>(DZ x).trans h)
def Cr:List (Nat×Ann):=[(6,⟨[(10,.own 105 b8),(24,.rowR 60688),(25,.val tI),(26,.val tI)],[],[.rowC 60688 134 .hnd,.ar bO],bp _⟩),
 (200006,⟨[(10,.own 105 b8)],[],[.ar bO],fun _=>0⟩)]
noncomputable def qc:aA:=⟨[.val bJ,.val (.slice aQ),.val tI],[.val (.slice b8),.val tI],fun x=>zb x.1 x.2.1 x.2.2.1⟩
noncomputable def EM:Cx:=⟨Tryz.prog,[(58,uR),(58,yH),(59,iY),(60,jG)],[]⟩
theorem Mm:∀ x,aV EM Cr (some bO) Tryz.f27 qc x=qc.m x:=by intro x;kernel_rfl
theorem Nv:av Tryz.prog 27:=an (fn:=Tryz.f27) (by kernel_rfl) rfl (by decide)
theorem NJ:aH Tryz.prog 27 qc:=aD (X:=EM) (.cons RA Rr (.cons TL TE (.cons Fi E5 (.cons BC Bz (.nil _))))) (by kernel_rfl) qc Cr (some bO) (by kernel_rfl) (fun x y h=>(Mm x).trans h)
def uz:List (Nat×Ann):=[]
noncomputable def iW:aA:=⟨[.box [.val bJ,.val (.slice aQ),.val ay,.val (.slice bn),.map tI (.slice b8),.map tI aX,.row 37 fm],.val tI],[.val (.slice b8)],fun x=>nX x.1 x.2.1⟩
noncomputable def wo:Cx:=⟨Tryz.prog,[(27,qc)],[]⟩
theorem DX:∀ x,aV wo uz none Tryz.f38 iW x=iW.m x:=by intro x;kernel_rfl
theorem E2:av Tryz.prog 38:=an (fn:=Tryz.f38) (by kernel_rfl) rfl (by decide)
theorem Ff:aH Tryz.prog 38 iW:=aD (X:=wo) (.cons NJ Nv (.nil _)) (by kernel_rfl) iW uz none (by kernel_rfl) (fun x y h=>(DX x).trans h)
def vX:List (Nat×Ann):=[]
noncomputable def jT:aA:=⟨[.val b8,.val (.ptr kY)],[.val .bool],fun x=>ve x.1 x.2.1⟩
noncomputable def yo:Cx:=⟨Tryz.prog,[],[]⟩
theorem FG:∀ x,aV yo vX none Tryz.f126 jT x=jT.m x:=by intro x;kernel_rfl
theorem GH:av Tryz.prog 126:=an (fn:=Tryz.f126) (by kernel_rfl) rfl (by decide)
theorem GQ:aH Tryz.prog 126 jT:=aD (X:=yo) (.nil _) (by kernel_rfl) jT vX none (by kernel_rfl) (fun x y h=>(FG x).trans h)
def qy:List (Nat×Ann):=[(2,⟨[(0,.val (.slice b8)),(1,.val (.clo 126 (.ptr kY))),(7,.val tI),(8,.val tI)],[],[],bp _⟩),
 (200002,⟨[],[],[],fun _=>0⟩)]
noncomputable def fS:aA:=⟨[.val (.slice b8),.val (.clo 126 (.ptr kY))],[.val tI],fun x=>kg x.1 x.2.1⟩
noncomputable def rX:Cx:=⟨Tryz.prog,[(126,jT)],[]⟩
theorem AN:∀ x,aV rX qy none Tryz.f125 fS x=fS.m x:=by intro x;kernel_rfl
theorem Bf:av Tryz.prog 125:=an (fn:=Tryz.f125) (by kernel_rfl) rfl (by decide)
theorem Bg:aH Tryz.prog 125 fS:=aD (X:=rX) (.cons GQ GH (.nil _)) (by kernel_rfl) fS qy none (by kernel_rfl) (fun x y h=>(AN x).trans h)
def Az:List (Nat×Ann):=[(3,⟨[(2,.ref 2 0),(3,.ref 3 0),(4,.ref 4 0),(5,.rowR 18),(20,.val (.slice (.int .u32))),(21,.val tI),(22,.val tI)],[(2,sP),(3,sP),(4,Ht)],[.rowC 18 203 (.int .u32)],bp _⟩),
 (7,⟨[(2,.ref 2 0),(3,.ref 3 0),(4,.ref 4 0),(5,.rowR 18),(6,.val tI),(7,.val (.int .u32)),(8,.val (.int .u64)),(20,.val (.slice (.int .u32))),(21,.val tI),(22,.val tI),(28,.val (.slice (.int .u32))),(29,.val tI),(30,.val tI)],[(2,sP),(3,sP),(4,Ht)],[.rowC 18 203 (.int .u32)],bp _⟩),
 (200003,⟨[(2,.ref 2 0),(3,.ref 3 0),(4,.ref 4 0),(5,.rowR 18)],[(2,sP),(3,sP),(4,Ht)],[.rowC 18 203 (.int .u32)],fun _=>0⟩),
 (200007,⟨[(2,.ref 2 0),(3,.ref 3 0),(4,.ref 4 0),(5,.rowR 18),(6,.val tI),(8,.val (.int .u64)),(20,.val (.slice (.int .u32))),(21,.val tI),(22,.val tI)],[(2,sP),(3,sP),(4,Ht)],[.rowC 18 203 (.int .u32)],fun _=>0⟩)]
noncomputable def gH:aA:=⟨[.val aX,.val aX],[.val aX],fun x=>iJ x.1 x.2.1⟩
noncomputable def CM:Cx:=⟨Tryz.prog,[(115,ki)],[]⟩
theorem JY:∀ x,aV CM Az none Tryz.f119 gH x=gH.m x:=by intro x;kernel_rfl
theorem qZ:av Tryz.prog 119:=an (fn:=Tryz.f119) (by kernel_rfl) rfl (by decide)
theorem q9:aH Tryz.prog 119 gH:=aD (X:=CM) (.cons uI uF (.nil _)) (by kernel_rfl) gH Az none (by kernel_rfl) (fun x y h=>(JY x).trans h)
def ED:List (Nat×Ann):=[(3,⟨[(2,.ref 2 0),(3,.ref 3 0),(5,.val tI),(6,.val tI)],[(2,Ht),(3,sP)],[],bp _⟩),
 (200003,⟨[(2,.ref 2 0),(3,.ref 3 0)],[(2,Ht),(3,sP)],[],fun _=>0⟩)]
noncomputable def tq:aA:=⟨[.val tI],[.val aX],fun x=>Ck x.1⟩
noncomputable def HC:Cx:=⟨Tryz.prog,[(64,jZ),(119,gH)],[]⟩
theorem Oj:∀ x,aV HC ED none Tryz.f120 tq x=tq.m x:=by intro x;kernel_rfl
theorem PV:av Tryz.prog 120:=an (fn:=Tryz.f120) (by kernel_rfl) rfl (by decide)
theorem Qf:aH Tryz.prog 120 tq:=aD (X:=HC) (.cons rP rL (.cons q9 qZ (.nil _))) (by kernel_rfl) tq ED none (by kernel_rfl) (fun x y h=>(Oj x).trans h)
def Cn:List (Nat×Ann):=[]
noncomputable def p9:aA:=⟨[.val ay,.val tI],[.val aX],fun x=>yN x.1 x.2.1⟩
noncomputable def EI:Cx:=⟨Tryz.prog,[(64,jZ),(119,gH),(120,tq)],[]⟩
theorem Mi:∀ x,aV EI Cn none Tryz.f66 p9 x=p9.m x:=by intro x;kernel_rfl
theorem Ns:av Tryz.prog 66:=an (fn:=Tryz.f66) (by kernel_rfl) rfl (by decide)
theorem NG:aH Tryz.prog 66 p9:=aD (X:=EI) (.cons rP rL (.cons q9 qZ (.cons Qf PV (.nil _)))) (by kernel_rfl) p9 Cn none (by kernel_rfl) (fun x y h=>(Mi x).trans h)
def DB:List (Nat×Ann):=[]
noncomputable def lU:aA:=⟨[.val ay],[.val aX],fun x=>lF x.1⟩
noncomputable def F9:Cx:=⟨Tryz.prog,[(66,p9)],[]⟩
theorem Nh:∀ x,aV F9 DB none Tryz.f73 lU x=lU.m x:=by intro x;kernel_rfl
theorem AQ:av Tryz.prog 73:=an (fn:=Tryz.f73) (by kernel_rfl) rfl (by decide)
theorem AV:aH Tryz.prog 73 lU:=aD (X:=F9) (.cons NG Ns (.nil _)) (by kernel_rfl) lU DB none (by kernel_rfl) (fun x y h=>(Nh x).trans h)
def Hh:List (Nat×Ann):=[]
noncomputable def wN:aA:=⟨[.val aX,.val tI],[.val aX],fun x=>Cy x.1 x.2.1⟩
noncomputable def Ko:Cx:=⟨Tryz.prog,[(64,jZ),(119,gH)],[]⟩
theorem Rj:∀ x,aV Ko Hh none Tryz.f128 wN x=wN.m x:=by intro x;kernel_rfl
theorem Sr:av Tryz.prog 128:=an (fn:=Tryz.f128) (by kernel_rfl) rfl (by decide)
theorem SN:aH Tryz.prog 128 wN:=aD (X:=Ko) (.cons rP rL (.cons q9 qZ (.nil _))) (by kernel_rfl) wN Hh none (by kernel_rfl) (fun x y h=>(Rj x).trans h)
def Bo:List (Nat×Ann):=[]
noncomputable def jw:aA:=⟨[.val aX,.val aX],[.val aX],fun x=>pN x.1 x.2.1⟩
noncomputable def DN:Cx:=⟨Tryz.prog,[(115,ki),(116,tr),(117,mU),(118,qG)],[]⟩
theorem KA:∀ x,aV DN Bo none Tryz.f65 jw x=jw.m x:=by intro x;kernel_rfl
theorem xY:av Tryz.prog 65:=an (fn:=Tryz.f65) (by kernel_rfl) rfl (by decide)
theorem x7:aH Tryz.prog 65 jw:=aD (X:=DN) (.cons uI uF (.cons Qg PW (.cons Fj E6 (.cons JH JG (.nil _))))) (by kernel_rfl) jw Bo none (by kernel_rfl) (fun x y h=>(KA x).trans h)
def Bn:List (Nat×Ann):=[]
noncomputable def l8:aA:=⟨[.val aX,.val aX],[.val aX],fun x=>tw x.1 x.2.1⟩
noncomputable def DM:Cx:=⟨Tryz.prog,[(65,jw),(81,kX)],[]⟩
theorem Kz:∀ x,aV DM Bn none Tryz.f40 l8 x=l8.m x:=by intro x;kernel_rfl
theorem DP:av Tryz.prog 40:=an (fn:=Tryz.f40) (by kernel_rfl) rfl (by decide)
theorem DQ:aH Tryz.prog 40 l8:=aD (X:=DM) (.cons x7 xY (.cons C6 CS (.nil _))) (by kernel_rfl) l8 Bn none (by kernel_rfl) (fun x y h=>(Kz x).trans h)
def yj:List (Nat×Ann):=[]
noncomputable def lX:aA:=⟨[.val aX,.val aX],[.val tI],fun x=>oO x.1 x.2.1⟩
noncomputable def AM:Cx:=⟨Tryz.prog,[(40,l8),(41,jx)],[]⟩
theorem HI:∀ x,aV AM yj none Tryz.f127 lX x=lX.m x:=by intro x;kernel_rfl
theorem II:av Tryz.prog 127:=an (fn:=Tryz.f127) (by kernel_rfl) rfl (by decide)
theorem IY:aH Tryz.prog 127 lX:=aD (X:=AM) (.cons DQ DP (.cons x8 xZ (.nil _))) (by kernel_rfl) lX yj none (by kernel_rfl) (fun x y h=>(HI x).trans h)
def Hg:List (Nat×Ann):=[]
noncomputable def wM:aA:=⟨[.val b8],[.val aX],fun x=>F5 x.1⟩
noncomputable def Kn:Cx:=⟨Tryz.prog,[(40,l8),(73,lU)],[]⟩
theorem Ri:∀ x,aV Kn Hg none Tryz.f39 wM x=wM.m x:=by intro x;kernel_rfl
theorem Sq:av Tryz.prog 39:=an (fn:=Tryz.f39) (by kernel_rfl) rfl (by decide)
theorem SM:aH Tryz.prog 39 wM:=aD (X:=Kn) (.cons DQ DP (.cons AV AQ (.nil _))) (by kernel_rfl) wM Hg none (by kernel_rfl) (fun x y h=>(Ri x).trans h)
def yg:List (Nat×Ann):=[]
noncomputable def lW:aA:=⟨[.box [.val bJ,.val (.slice aQ),.val ay,.val (.slice bn),.map tI (.slice b8),.map tI aX,.row 37 fm],.val tI,.val kY],[.val tI],fun x=>sd x.1 x.2.1 x.2.2.1⟩
noncomputable def AK:Cx:=⟨Tryz.prog,[(38,iW),(39,wM),(41,jx),(64,jZ),(65,jw),(73,lU),(119,gH),(125,fS),(127,lX),(128,wN)],[]⟩
theorem HG:∀ x,aV AK yg none Tryz.f72 lW x=lW.m x:=by intro x;kernel_rfl
theorem IG:av Tryz.prog 72:=an (fn:=Tryz.f72) (by kernel_rfl) rfl (by decide)
theorem IX:aH Tryz.prog 72 lW:=aD (X:=AK) (.cons Ff E2 (.cons SM Sq (.cons x8 xZ (.cons rP rL (.cons x7 xY (.cons AV AQ (.cons q9 qZ (.cons Bg Bf (.cons IY II (.cons SN Sr (.nil _))))))))))) (by kernel_rfl) lW yg none (by kernel_rfl) (fun x y h=>(HG x).trans h)
def vz:List (Nat×Ann):=[(8,⟨[(2,.ref 2 0),(4,.ref 4 0),(5,.fn 69 [2,3]),(40,.val (.slice kY)),(41,.val tI),(42,.val tI)],[(2,[.ref 2000 0]),(3,[.val tI]),(4,[.val .str,.val .str,.val tI,.val tI,.val tI,.val .bool,.val (.slice lY),.val (.slice kY),.val (.slice rW)]),(2000,Oa)],[],bp _⟩),
 (200008,⟨[],[(2000,Oa)],[],fun _=>0⟩)]
noncomputable def jv:aA:=⟨[.box [.val bJ,.val (.slice aQ),.val ay,.val (.slice bn),.map tI (.slice b8),.map tI aX,.row 37 fm],.val tI],[],fun x=>lH x.1 x.2.1⟩
noncomputable def xQ:Cx:=⟨Tryz.prog,[(65,jw),(70,dJ),(72,lW),(73,lU)],[(69,Wm)]⟩
theorem ET:∀ x,aV xQ vz none Tryz.f31 jv x=jv.m x:=by intro x;kernel_rfl
theorem FN:av Tryz.prog 31:=an (fn:=Tryz.f31) (by kernel_rfl) rfl (by decide)
theorem FO:aH Tryz.prog 31 jv:=aD (X:=xQ) (.UT Y3 Y2 (.cons x7 xY (.cons x4 xV (.cons IX IG (.cons AV AQ (.nil _)))))) (by kernel_rfl) jv vz none (by kernel_rfl) (fun x y h=>(ET x).trans h)
def FQ:List (Nat×Ann):=[(5,⟨[(10,.ref 18 0),(25,.val tI),(26,.val tI)],[(18,Oa)],[],bp _⟩),
 (200005,⟨[(10,.ref 18 0)],[(18,Oa)],[],fun _=>0⟩)]
noncomputable def uO:aA:=⟨[.val bJ,.val (.slice aQ),.val ay,.val (.slice bn)],[.val (.slice fm),.val tI],fun x=>AB x.1 x.2.1 x.2.2.1 x.2.2.2.1⟩
noncomputable def Jr:Cx:=⟨Tryz.prog,[(30,mJ),(30,oM),(31,jv)],[]⟩
theorem PD:∀ x,aV Jr FQ none Tryz.f8 uO x=uO.m x:=by intro x;kernel_rfl
theorem Ro:av Tryz.prog 8:=an (fn:=Tryz.f8) (by kernel_rfl) rfl (by decide)
theorem Rx:aH Tryz.prog 8 uO:=aD (X:=Jr) (.cons J2 JZ (.cons MA Mv (.cons FO FN (.nil _)))) (by kernel_rfl) uO FQ none (by kernel_rfl) (fun x y h=>(PD x).trans h)
def ye:List (Nat×Ann):=[]
noncomputable def lV:aA:=⟨[.val gq,.val (.ptr gq)],[.val .bool],fun x=>xS x.1 x.2.1⟩
noncomputable def AI:Cx:=⟨Tryz.prog,[],[]⟩
theorem HE:∀ x,aV AI ye none Tryz.f188 lV x=lV.m x:=by intro x;kernel_rfl
theorem IF:av Tryz.prog 188:=an (fn:=Tryz.f188) (by kernel_rfl) rfl (by decide)
theorem IW:aH Tryz.prog 188 lV:=aD (X:=AI) (.nil _) (by kernel_rfl) lV ye none (by kernel_rfl) (fun x y h=>(HE x).trans h)
def qL:List (Nat×Ann):=[(2,⟨[(0,.val (.slice gq)),(1,.val (.clo 188 (.ptr gq))),(7,.val tI),(8,.val tI)],[],[],bp _⟩),
 (200002,⟨[],[],[],fun _=>0⟩)]
noncomputable def gD:aA:=⟨[.val (.slice gq),.val (.clo 188 (.ptr gq))],[.val tI],fun x=>pq x.1 x.2.1⟩
noncomputable def sS:Cx:=⟨Tryz.prog,[(188,lV)],[]⟩
theorem Be:∀ x,aV sS qL none Tryz.f235 gD x=gD.m x:=by intro x;kernel_rfl
theorem BL:av Tryz.prog 235:=an (fn:=Tryz.f235) (by kernel_rfl) rfl (by decide)
theorem BQ:aH Tryz.prog 235 gD:=aD (X:=sS) (.cons IW IF (.nil _)) (by kernel_rfl) gD qL none (by kernel_rfl) (fun x y h=>(Be x).trans h)
def pE:List (Nat×Ann):=[]
noncomputable def eF:aA:=⟨[.val (.slice gq),.val (.clo 188 (.ptr gq))],[.val .bool],fun x=>jh x.1 x.2.1⟩
noncomputable def qz:Cx:=⟨Tryz.prog,[(235,gD)],[]⟩
theorem zm:∀ x,aV qz pE none Tryz.f187 eF x=eF.m x:=by intro x;kernel_rfl
theorem Ad:av Tryz.prog 187:=an (fn:=Tryz.f187) (by kernel_rfl) rfl (by decide)
theorem Af:aH Tryz.prog 187 eF:=aD (X:=qz) (.cons BQ BL (.nil _)) (by kernel_rfl) eF pE none (by kernel_rfl) (fun x y h=>(zm x).trans h)
def Ap:List (Nat×Ann):=[]
noncomputable def kR:aA:=⟨[.val ay],[.val tI],fun x=>iy x.1⟩
noncomputable def CC:Cx:=⟨Tryz.prog,[(114,cG),(165,jC)],[]⟩
theorem JP:∀ x,aV CC Ap none Tryz.f189 kR x=kR.m x:=by intro x;kernel_rfl
theorem CO:av Tryz.prog 189:=an (fn:=Tryz.f189) (by kernel_rfl) rfl (by decide)
theorem C2:aH Tryz.prog 189 kR:=aD (X:=CC) (.cons gY gX (.cons vH vG (.nil _))) (by kernel_rfl) kR Ap none (by kernel_rfl) (fun x y h=>(JP x).trans h)
def Am:List (Nat×Ann):=[(4,⟨[(0,.val (.slice gq)),(9,.val (.slice gq)),(10,.val tI),(11,.val tI)],[],[],bp _⟩),
 (200004,⟨[],[],[],fun _=>0⟩)]
noncomputable def nI:aA:=⟨[.val (.slice gq)],[.val tI],fun x=>vA x.1⟩
noncomputable def Cz:Cx:=⟨Tryz.prog,[(35,cI),(37,gN),(48,gu),(187,eF),(189,kR)],[]⟩
theorem JM:∀ x,aV Cz Am none Tryz.f129 nI x=nI.m x:=by intro x;kernel_rfl
theorem KI:av Tryz.prog 129:=an (fn:=Tryz.f129) (by kernel_rfl) rfl (by decide)
theorem Lb:aH Tryz.prog 129 nI:=aD (X:=Cz) (.cons fh ff (.cons nE nA (.cons mj mc (.cons Af Ad (.cons C2 CO (.nil _)))))) (by kernel_rfl) nI Am none (by kernel_rfl) (fun x y h=>(JM x).trans h)
def wh:List (Nat×Ann):=[(2,⟨[(0,.val (.slice .str)),(1,.val .str),(7,.val tI),(8,.val tI)],[],[],bp _⟩),
 (200002,⟨[],[],[],fun _=>0⟩)]
noncomputable def jY:aA:=⟨[.val (.slice .str),.val .str],[.val tI],fun x=>vp x.1 x.2.1⟩
noncomputable def yx:Cx:=⟨Tryz.prog,[],[]⟩
theorem FM:∀ x,aV yx wh none Tryz.f236 jY x=jY.m x:=by intro x;kernel_rfl
theorem GM:av Tryz.prog 236:=an (fn:=Tryz.f236) (by kernel_rfl) rfl (by decide)
theorem GW:aH Tryz.prog 236 jY:=aD (X:=yx) (.nil _) (by kernel_rfl) jY wh none (by kernel_rfl) (fun x y h=>(FM x).trans h)
def tK:List (Nat×Ann):=[]
noncomputable def iH:aA:=⟨[.val (.slice .str),.val .str],[.val .bool],fun x=>nq x.1 x.2.1⟩
noncomputable def vE:Cx:=⟨Tryz.prog,[(236,jY)],[]⟩
theorem Ds:∀ x,aV vE tK none Tryz.f190 iH x=iH.m x:=by intro x;kernel_rfl
theorem D6:av Tryz.prog 190:=an (fn:=Tryz.f190) (by kernel_rfl) rfl (by decide)
theorem Ec:aH Tryz.prog 190 iH:=aD (X:=vE) (.cons GW GM (.nil _)) (by kernel_rfl) iH tK none (by kernel_rfl) (fun x y h=>(Ds x).trans h)
def xL:List (Nat×Ann):=[(4,⟨[(0,.val (.slice cK)),(11,.val (.slice cK)),(12,.val tI),(13,.val tI)],[],[],bp _⟩),
 (16,⟨[(0,.val (.slice cK)),(4,.ref 4 0),(11,.val (.slice cK)),(12,.val tI),(13,.val tI),(46,.val (.slice .str)),(47,.val tI),(48,.val tI)],[(4,Ob)],[],bp _⟩),
 (200004,⟨[],[],[],fun _=>0⟩),
 (200016,⟨[(0,.val (.slice cK)),(11,.val (.slice cK)),(12,.val tI),(13,.val tI)],[],[],fun _=>0⟩)]
noncomputable def kP:aA:=⟨[.val (.slice cK)],[.val tI],fun x=>qN x.1⟩
noncomputable def zP:Cx:=⟨Tryz.prog,[(37,gN),(48,gu),(189,kR),(190,iH)],[]⟩
theorem Gz:∀ x,aV zP xL none Tryz.f130 kP x=kP.m x:=by intro x;kernel_rfl
theorem HN:av Tryz.prog 130:=an (fn:=Tryz.f130) (by kernel_rfl) rfl (by decide)
theorem HU:aH Tryz.prog 130 kP:=aD (X:=zP) (.cons nE nA (.cons mj mc (.cons C2 CO (.cons Ec D6 (.nil _))))) (by kernel_rfl) kP xL none (by kernel_rfl) (fun x y h=>(Gz x).trans h)
def Bh:List (Nat×Ann):=[]
noncomputable def oJ:aA:=⟨[.val (.slice gq),.val (.slice cK)],[.val tI],fun x=>xd x.1 x.2.1⟩
noncomputable def DH:Cx:=⟨Tryz.prog,[(129,nI),(130,kP)],[]⟩
theorem Ku:∀ x,aV DH Bh none Tryz.f74 oJ x=oJ.m x:=by intro x;kernel_rfl
theorem Ms:av Tryz.prog 74:=an (fn:=Tryz.f74) (by kernel_rfl) rfl (by decide)
theorem Mx:aH Tryz.prog 74 oJ:=aD (X:=DH) (.cons Lb KI (.cons HU HN (.nil _))) (by kernel_rfl) oJ Bh none (by kernel_rfl) (fun x y h=>(Ku x).trans h)
def FR:List (Nat×Ann):=[]
noncomputable def uP:aA:=⟨[.val ay],[.val tI],fun x=>AG x.1⟩
noncomputable def Js:Cx:=⟨Tryz.prog,[(191,oA)],[]⟩
theorem PE:∀ x,aV Js FR none Tryz.f131 uP x=uP.m x:=by intro x;kernel_rfl
theorem Rp:av Tryz.prog 131:=an (fn:=Tryz.f131) (by kernel_rfl) rfl (by decide)
theorem Ry:aH Tryz.prog 131 uP:=aD (X:=Js) (.cons Dw Dt (.nil _)) (by kernel_rfl) uP FR none (by kernel_rfl) (fun x y h=>(PE x).trans h)
def sH:List (Nat×Ann):=[]
noncomputable def gO:aA:=⟨[.val (.slice .hnd)],[.row 154 .hnd],fun x=>mA x.1⟩
noncomputable def uD:Cx:=⟨Tryz.prog,[],[]⟩
theorem CN:∀ x,aV uD sH none Tryz.f132 gO x=gO.m x:=by intro x;kernel_rfl
theorem Du:av Tryz.prog 132:=an (fn:=Tryz.f132) (by kernel_rfl) rfl (by decide)
theorem Dx:aH Tryz.prog 132 gO:=aD (X:=uD) (.nil _) (by kernel_rfl) gO sH none (by kernel_rfl) (fun x y h=>(CN x).trans h)
def Bi:List (Nat×Ann):=[]
noncomputable def oK:aA:=⟨[.val .hnd,.arR aK],[.val tI],fun x=>xe x.1 x.2.1⟩
noncomputable def DI:Cx:=⟨Tryz.prog,[],[]⟩
theorem Kv:∀ x,aV DI Bi none Tryz.f135 oK x=oK.m x:=by intro x;kernel_rfl
theorem Mt:av Tryz.prog 135:=an (fn:=Tryz.f135) (by kernel_rfl) rfl (by decide)
theorem My:aH Tryz.prog 135 oK:=aD (X:=DI) (.nil _) (by kernel_rfl) oK Bi none (by kernel_rfl) (fun x y h=>(Kv x).trans h)
def Aq:List (Nat×Ann):=[]
noncomputable def kS:aA:=⟨[.val .hnd,.val .hnd,.arR aK],[.val tI],fun x=>lI x.1 x.2.1 x.2.2.1⟩
noncomputable def CD:Cx:=⟨Tryz.prog,[(135,oK)],[]⟩
theorem JQ:∀ x,aV CD Aq none Tryz.f134 kS x=kS.m x:=by intro x;kernel_rfl
theorem CP:av Tryz.prog 134:=an (fn:=Tryz.f134) (by kernel_rfl) rfl (by decide)
theorem C3:aH Tryz.prog 134 kS:=aD (X:=CD) (.cons My Mt (.nil _)) (by kernel_rfl) kS Aq none (by kernel_rfl) (fun x y h=>(JQ x).trans h)
def kr:List (Nat×Ann):=[(1,⟨[(0,.rowR 10250000),(1,.val tI),(2,.val tI),(3,.val (.clo 134 .unit)),(8,.val tI)],[],[.rowC 10250000 154 .hnd,.arF aK],bp _⟩),
 (4,⟨[(0,.rowR 10250000),(1,.val tI),(2,.val tI),(3,.val (.clo 134 .unit)),(8,.val tI),(9,.val tI)],[],[.rowC 10250000 154 .hnd,.arF aK],bp _⟩),
 (200001,⟨[],[],[.rowC 10250000 154 .hnd,.arF aK],fun _=>0⟩),
 (200004,⟨[(0,.rowR 10250000),(1,.val tI),(2,.val tI),(3,.val (.clo 134 .unit)),(8,.val tI)],[],[.rowC 10250000 154 .hnd,.arF aK],fun _=>0⟩)]
noncomputable def cD:aA:=⟨[.mrow 154 .hnd,.val tI,.val tI,.val (.clo 134 .unit),.arR aK],[],fun x=>cR x.1 x.2.1 x.2.2.1 x.2.2.2.1 x.2.2.2.2.1⟩
noncomputable def lC:Cx:=⟨Tryz.prog,[(134,kS)],[]⟩
theorem sU:∀ x,aV lC kr none Tryz.f237 cD x=cD.m x:=by intro x;kernel_rfl
theorem tE:av Tryz.prog 237:=an (fn:=Tryz.f237) (by kernel_rfl) rfl (by decide)
theorem tF:aH Tryz.prog 237 cD:=aD (X:=lC) (.cons C3 CP (.nil _)) (by kernel_rfl) cD kr none (by kernel_rfl) (fun x y h=>(sU x).trans h)
def l9:List (Nat×Ann):=[(1,⟨[(0,.rowR 10250000),(1,.val tI),(2,.val tI),(3,.val tI),(10,.val tI)],[],[.rowC 10250000 154 .hnd,.arF aK],bp _⟩),
 (200001,⟨[],[],[.rowC 10250000 154 .hnd,.arF aK],fun _=>0⟩)]
noncomputable def cZ:aA:=⟨[.mrow 154 .hnd,.val tI,.val tI,.val tI,.val (.clo 134 .unit),.arR aK],[],fun x=>cH x.1 x.2.1 x.2.2.1 x.2.2.2.1 x.2.2.2.2.1 x.2.2.2.2.2.1⟩
noncomputable def mY:Cx:=⟨Tryz.prog,[],[]⟩
theorem vf:∀ x,aV mY l9 none Tryz.f282 cZ x=cZ.m x:=by intro x;kernel_rfl
theorem vQ:av Tryz.prog 282:=an (fn:=Tryz.f282) (by kernel_rfl) rfl (by decide)
theorem vR:aH Tryz.prog 282 cZ:=aD (X:=mY) (.nil _) (by kernel_rfl) cZ l9 none (by kernel_rfl) (fun x y h=>(vf x).trans h)
def nu:List (Nat×Ann):=[(2,⟨[(0,.rowR 10250000),(2,.val tI),(4,.val (.clo 134 .unit)),(10,.val tI),(11,.val tI)],[],[.rowC 10250000 154 .hnd,.arF aK],bp _⟩),
 (200002,⟨[(0,.rowR 10250000),(2,.val tI),(4,.val (.clo 134 .unit)),(10,.val tI)],[],[.rowC 10250000 154 .hnd,.arF aK],fun _=>0⟩)]
noncomputable def dK:aA:=⟨[.mrow 154 .hnd,.val tI,.val tI,.val tI,.val (.clo 134 .unit),.arR aK],[],fun x=>gT x.1 x.2.1 x.2.2.1 x.2.2.2.1 x.2.2.2.2.1 x.2.2.2.2.2.1⟩
noncomputable def oE:Cx:=⟨Tryz.prog,[(282,cZ)],[]⟩
theorem xo:∀ x,aV oE nu none Tryz.f266 dK x=dK.m x:=by intro x;kernel_rfl
theorem xW:av Tryz.prog 266:=an (fn:=Tryz.f266) (by kernel_rfl) rfl (by decide)
theorem x5:aH Tryz.prog 266 dK:=aD (X:=oE) (.cons vR vQ (.nil _)) (by kernel_rfl) dK nu none (by kernel_rfl) (fun x y h=>(xo x).trans h)
def mC:List (Nat×Ann):=[(3,⟨[(0,.rowR 10250000),(1,.val tI),(4,.val (.clo 134 .unit)),(10,.val tI),(11,.val tI)],[],[.rowC 10250000 154 .hnd,.arF aK],bp _⟩),
 (9,⟨[(0,.rowR 10250000),(10,.val tI),(13,.val tI)],[],[.rowC 10250000 154 .hnd,.arF aK],bp _⟩),
 (15,⟨[(0,.rowR 10250000),(2,.val tI),(4,.val (.clo 134 .unit)),(14,.val tI),(15,.val tI)],[],[.rowC 10250000 154 .hnd,.arF aK],bp _⟩),
 (21,⟨[(0,.rowR 10250000),(14,.val tI),(17,.val tI)],[],[.rowC 10250000 154 .hnd,.arF aK],bp _⟩),
 (33,⟨[(0,.rowR 10250000),(1,.val tI),(2,.val tI),(3,.val tI),(4,.val (.clo 134 .unit)),(18,.val tI),(19,.val tI),(20,.val tI),(21,.val tI),(22,.val tI)],[],[.rowC 10250000 154 .hnd,.arF aK],bp _⟩),
 (100030,⟨[(0,.rowR 10250000),(1,.val tI),(2,.val tI),(3,.val tI),(4,.val (.clo 134 .unit)),(18,.val tI),(19,.val tI),(20,.val tI),(21,.val tI)],[],[.rowC 10250000 154 .hnd,.arF aK],fun _=>0⟩),
 (100040,⟨[(0,.rowR 10250000),(1,.val tI),(3,.val tI),(4,.val (.clo 134 .unit)),(18,.val tI),(20,.val tI),(24,.val tI)],[],[.rowC 10250000 154 .hnd,.arF aK],fun _=>0⟩),
 (100042,⟨[(0,.rowR 10250000),(3,.val tI),(4,.val (.clo 134 .unit)),(18,.val tI),(24,.val tI)],[],[.rowC 10250000 154 .hnd,.arF aK],fun _=>0⟩),
 (200003,⟨[(0,.rowR 10250000),(1,.val tI),(10,.val tI)],[],[.rowC 10250000 154 .hnd,.arF aK],fun _=>0⟩),
 (200009,⟨[],[],[.rowC 10250000 154 .hnd,.arF aK],fun _=>0⟩),
 (200015,⟨[(0,.rowR 10250000),(2,.val tI),(14,.val tI)],[],[.rowC 10250000 154 .hnd,.arF aK],fun _=>0⟩),
 (200021,⟨[],[],[.rowC 10250000 154 .hnd,.arF aK],fun _=>0⟩),
 (200033,⟨[(0,.rowR 10250000),(1,.val tI),(2,.val tI),(3,.val tI),(4,.val (.clo 134 .unit)),(18,.val tI),(19,.val tI),(20,.val tI)],[],[.rowC 10250000 154 .hnd,.arF aK],fun _=>0⟩)]
def bL:List PM:=[.mrow 154 .hnd,.val tI,.val tI,.val tI,.val (.clo 134 .unit),.arR aK]
def cn:List RM:=[]
noncomputable def mZ:List (Nat×aA):=[(134,kS),(266,dK)]
noncomputable def nP:aA:=⟨bL,cn,fun x=>dS x.1 x.2.1 x.2.2.1 x.2.2.2.1 x.2.2.2.2.1 x.2.2.2.2.2.1⟩
theorem vP:∀ (self:fN bL→Option (cU bL cn)) (x:fN bL),aV ⟨Tryz.prog,(238,⟨bL,cn,self⟩)::mZ,[]⟩ mC none Tryz.f238 ⟨bL,cn,fun x=>bU self x.1 x.2.1 x.2.2.1 x.2.2.2.1 x.2.2.2.2.1 x.2.2.2.2.2.1⟩ x=bU self x.1 x.2.1 x.2.2.1 x.2.2.2.1 x.2.2.2.2.1 x.2.2.2.2.2.1:=by intro self x;kernel_rfl
theorem nB:av Tryz.prog 238:=an (fn:=Tryz.f238) (by kernel_rfl) rfl (by decide)
theorem wD:aH Tryz.prog 238 nP:=TB (ps:=bL) (rs:=cn) (m:=fun n x=>Fm (fun self x=>bU self x.1 x.2.1 x.2.2.1 x.2.2.2.1 x.2.2.2.2.1 x.2.2.2.2.2.1) n x) (Oz (P:=Tryz.prog) (specs:=mZ) (ps:=bL) (rs:=cn) (.cons C3 CP (.cons x5 xW (.nil _))) (by kernel_rfl) (fun self x=>bU self x.1 x.2.1 x.2.2.1 x.2.2.2.1 x.2.2.2.2.1 x.2.2.2.2.2.1) mC none (by kernel_rfl) nB vP) (fun x=>ij x.1 x.2.1 x.2.2.1 x.2.2.2.1 x.2.2.2.2.1 x.2.2.2.2.2.1)
def nv:List (Nat×Ann):=[(2,⟨[(0,.rowR 10250000),(1,.val tI),(2,.val (.clo 134 .unit)),(6,.val tI),(7,.val tI),(8,.val tI)],[],[.rowC 10250000 154 .hnd,.arF aK],bp _⟩),
 (7,⟨[(0,.rowR 10250000),(1,.val tI),(2,.val (.clo 134 .unit)),(6,.val tI)],[],[.rowC 10250000 154 .hnd,.arF aK],bp _⟩),
 (9,⟨[(0,.rowR 10250000),(1,.val tI),(2,.val (.clo 134 .unit)),(6,.val tI),(7,.val tI),(8,.val tI)],[],[.rowC 10250000 154 .hnd,.arF aK],bp _⟩),
 (200002,⟨[(0,.rowR 10250000),(1,.val tI),(2,.val (.clo 134 .unit)),(6,.val tI),(7,.val tI)],[],[.rowC 10250000 154 .hnd,.arF aK],fun _=>0⟩),
 (200007,⟨[],[],[.rowC 10250000 154 .hnd,.arF aK],fun _=>0⟩),
 (200009,⟨[(0,.rowR 10250000),(1,.val tI),(2,.val (.clo 134 .unit)),(6,.val tI),(7,.val tI)],[],[.rowC 10250000 154 .hnd,.arF aK],fun _=>0⟩)]
noncomputable def dL:aA:=⟨[.mrow 154 .hnd,.val tI,.val (.clo 134 .unit),.arR aK],[],fun x=>lB x.1 x.2.1 x.2.2.1 x.2.2.2.1⟩
noncomputable def oF:Cx:=⟨Tryz.prog,[(237,cD),(238,nP)],[]⟩
theorem xq:∀ x,aV oF nv none Tryz.f192 dL x=dL.m x:=by intro x;kernel_rfl
theorem xX:av Tryz.prog 192:=an (fn:=Tryz.f192) (by kernel_rfl) rfl (by decide)
theorem x6:aH Tryz.prog 192 dL:=aD (X:=oF) (.cons tF tE (.cons wD nB (.nil _))) (by kernel_rfl) dL nv none (by kernel_rfl) (fun x y h=>(xq x).trans h)
def mX:List (Nat×Ann):=[]
noncomputable def dx:aA:=⟨[.mrow 154 .hnd,.val (.clo 134 .unit),.arR aK],[],fun x=>gK x.1 x.2.1 x.2.2.1⟩
noncomputable def nZ:Cx:=⟨Tryz.prog,[(192,dL)],[]⟩
theorem wA:∀ x,aV nZ mX none Tryz.f133 dx x=dx.m x:=by intro x;kernel_rfl
theorem xz:av Tryz.prog 133:=an (fn:=Tryz.f133) (by kernel_rfl) rfl (by decide)
theorem xE:aH Tryz.prog 133 dx:=aD (X:=nZ) (.cons x6 xX (.nil _)) (by kernel_rfl) dx mX none (by kernel_rfl) (fun x y h=>(wA x).trans h)
def Ao:List (Nat×Ann):=[]
noncomputable def nK:aA:=⟨[.val .hnd,.val tI,.arR aK],[.val .bool],fun x=>nW x.1 x.2.1 x.2.2.1⟩
noncomputable def CB:Cx:=⟨Tryz.prog,[],[]⟩
theorem JO:∀ x,aV CB Ao none Tryz.f136 nK x=nK.m x:=by intro x;kernel_rfl
theorem KK:av Tryz.prog 136:=an (fn:=Tryz.f136) (by kernel_rfl) rfl (by decide)
theorem Ld:aH Tryz.prog 136 nK:=aD (X:=CB) (.nil _) (by kernel_rfl) nK Ao none (by kernel_rfl) (fun x y h=>(JO x).trans h)
def xM:List (Nat×Ann):=[]
noncomputable def kQ:aA:=⟨[.val .hnd,.arR aK],[.val tI],fun x=>qO x.1 x.2.1⟩
noncomputable def zQ:Cx:=⟨Tryz.prog,[(191,oA)],[]⟩
theorem GA:∀ x,aV zQ xM none Tryz.f193 kQ x=kQ.m x:=by intro x;kernel_rfl
theorem HO:av Tryz.prog 193:=an (fn:=Tryz.f193) (by kernel_rfl) rfl (by decide)
theorem HV:aH Tryz.prog 193 kQ:=aD (X:=zQ) (.cons Dw Dt (.nil _)) (by kernel_rfl) kQ xM none (by kernel_rfl) (fun x y h=>(GA x).trans h)
def Co:List (Nat×Ann):=[]
noncomputable def mS:aA:=⟨[.val .hnd,.val tI,.val tI,.ar aK],[.val tI],fun x=>qD x.1 x.2.1 x.2.2.1 x.2.2.2.1⟩
noncomputable def EJ:Cx:=⟨Tryz.prog,[],[]⟩
theorem Mj:∀ x,aV EJ Co none Tryz.f138 mS x=mS.m x:=by intro x;kernel_rfl
theorem EZ:av Tryz.prog 138:=an (fn:=Tryz.f138) (by kernel_rfl) rfl (by decide)
theorem Fe:aH Tryz.prog 138 mS:=aD (X:=EJ) (.nil _) (by kernel_rfl) mS Co none (by kernel_rfl) (fun x y h=>(Mj x).trans h)
def An:List (Nat×Ann):=[]
noncomputable def nJ:aA:=⟨[.val .hnd,.val tI,.val tI,.ar aK],[.val tI],fun x=>qP x.1 x.2.1 x.2.2.1 x.2.2.2.1⟩
noncomputable def CA:Cx:=⟨Tryz.prog,[(138,mS),(193,kQ)],[]⟩
theorem JN:∀ x,aV CA An none Tryz.f137 nJ x=nJ.m x:=by intro x;kernel_rfl
theorem KJ:av Tryz.prog 137:=an (fn:=Tryz.f137) (by kernel_rfl) rfl (by decide)
theorem Lc:aH Tryz.prog 137 nJ:=aD (X:=CA) (.cons Fe EZ (.cons HV HO (.nil _))) (by kernel_rfl) nJ An none (by kernel_rfl) (fun x y h=>(JN x).trans h)
def Cp:List (Nat×Ann):=[(4,⟨[(1,.val (.slice cK)),(2,.val tI),(8,.own 154 .hnd),(9,.mapR 23),(24,.val (.slice gq)),(25,.val tI),(26,.val tI)],[],[.mapC 23 .str .hnd,.ar aK],bp _⟩),
 (14,⟨[(2,.val tI),(8,.own 154 .hnd),(9,.mapR 23),(13,.rowR 105744),(14,.own 3 tI),(49,.val (.slice cK)),(50,.val tI),(51,.val tI)],[],[.rowC 105744 154 .hnd,.mapC 23 .str .hnd,.ar aK],bp _⟩),
 (19,⟨[(2,.val tI),(8,.own 154 .hnd),(9,.mapR 23),(13,.rowR 105744),(14,.own 3 tI),(16,.ref 16 0),(17,.val tI),(49,.val (.slice cK)),(50,.val tI),(51,.val tI),(63,.val (.slice .str)),(64,.val tI),(65,.val tI)],[(16,Ob)],[.rowC 105744 154 .hnd,.mapC 23 .str .hnd,.ar aK],bp _⟩),
 (26,⟨[(2,.val tI),(8,.own 154 .hnd),(9,.mapR 23),(13,.rowR 105744),(14,.own 3 tI),(16,.ref 16 0),(17,.val tI),(49,.val (.slice cK)),(50,.val tI),(51,.val tI),(86,.rowR 105744),(87,.val tI),(88,.val tI)],[(16,Ob)],[.rowC 105744 154 .hnd,.mapC 23 .str .hnd,.ar aK],bp _⟩),
 (200004,⟨[(1,.val (.slice cK)),(2,.val tI),(8,.own 154 .hnd),(9,.mapR 23)],[],[.mapC 23 .str .hnd,.ar aK],fun _=>0⟩),
 (200014,⟨[(8,.own 154 .hnd),(14,.own 3 tI)],[],[.ar aK],fun _=>0⟩),
 (200019,⟨[(2,.val tI),(8,.own 154 .hnd),(9,.mapR 23),(13,.rowR 105744),(14,.own 3 tI),(16,.ref 16 0),(17,.val tI),(49,.val (.slice cK)),(50,.val tI),(51,.val tI)],[(16,Ob)],[.rowC 105744 154 .hnd,.mapC 23 .str .hnd,.ar aK],fun _=>0⟩),
 (200026,⟨[(2,.val tI),(8,.own 154 .hnd),(9,.mapR 23),(13,.rowR 105744),(14,.own 3 tI),(17,.val tI),(49,.val (.slice cK)),(50,.val tI),(51,.val tI)],[],[.rowC 105744 154 .hnd,.mapC 23 .str .hnd,.ar aK],fun _=>0⟩)]
noncomputable def qa:aA:=⟨[.val (.slice gq),.val (.slice cK),.val tI,.ar aK],[.val (.slice .hnd),.val (.slice tI)],fun x=>yQ x.1 x.2.1 x.2.2.1 x.2.2.2.1⟩
noncomputable def EK:Cx:=⟨Tryz.prog,[(131,uP),(132,gO),(133,dx),(136,nK),(137,nJ),(138,mS)],[]⟩
theorem Mk:∀ x,aV EK Cp none Tryz.f75 qa x=qa.m x:=by intro x;kernel_rfl
theorem Nt:av Tryz.prog 75:=an (fn:=Tryz.f75) (by kernel_rfl) rfl (by decide)
theorem NH:aH Tryz.prog 75 qa:=aD (X:=EK) (.cons Ry Rp (.cons Dx Du (.cons xE xz (.cons Ld KK (.cons Lc KJ (.cons Fe EZ (.nil _))))))) (by kernel_rfl) qa Cp none (by kernel_rfl) (fun x y h=>(Mk x).trans h)
def FT:List (Nat×Ann):=[]
noncomputable def uQ:aA:=⟨[.val tI],[.val ay,.val tI],fun x=>DU x.1⟩
noncomputable def Jt:Cx:=⟨Tryz.prog,[(42,mR),(64,jZ)],[]⟩
theorem PF:∀ x,aV Jt FT none Tryz.f139 uQ x=uQ.m x:=by intro x;kernel_rfl
theorem Rq:av Tryz.prog 139:=an (fn:=Tryz.f139) (by kernel_rfl) rfl (by decide)
theorem Rz:aH Tryz.prog 139 uQ:=aD (X:=Jt) (.cons Fc EY (.cons rP rL (.nil _))) (by kernel_rfl) uQ FT none (by kernel_rfl) (fun x y h=>(PF x).trans h)
def Bl:List (Nat×Ann):=[]
noncomputable def oN:aA:=⟨[.val tI],[.val ay],fun x=>kH x.1⟩
noncomputable def DL:Cx:=⟨Tryz.prog,[(139,uQ)],[]⟩
theorem Ky:∀ x,aV DL Bl none Tryz.f76 oN x=oN.m x:=by intro x;kernel_rfl
theorem Mw:av Tryz.prog 76:=an (fn:=Tryz.f76) (by kernel_rfl) rfl (by decide)
theorem MC:aH Tryz.prog 76 oN:=aD (X:=DL) (.cons Rz Rq (.nil _)) (by kernel_rfl) oN Bl none (by kernel_rfl) (fun x y h=>(Ky x).trans h)
def Jl:List (Nat×Ann):=[(7,⟨[(9,.val (.slice tI)),(10,.own 96 A9),(28,.val (.slice .hnd)),(29,.val tI),(30,.val tI)],[],[.ar aK],bp _⟩),
 (13,⟨[(10,.own 96 A9),(13,.own 55 ay),(58,.val (.slice tI)),(59,.val tI),(60,.val tI)],[],[.ar aK],bp _⟩),
 (200007,⟨[(9,.val (.slice tI)),(10,.own 96 A9)],[],[.ar aK],fun _=>0⟩),
 (200013,⟨[(10,.own 96 A9),(13,.own 55 ay)],[],[.ar aK],fun _=>0⟩)]
noncomputable def yG:aA:=⟨[.val (.slice gq),.val (.slice cK)],[.val (.slice A9),.val (.slice ay),.val tI],fun x=>EF x.1 x.2.1⟩
noncomputable def MJ:Cx:=⟨Tryz.prog,[(74,oJ),(75,qa),(76,oN)],[]⟩
theorem Sc:∀ x,aV MJ Jl (some aK) Tryz.f32 yG x=yG.m x:=by intro x;kernel_rfl
theorem TD:av Tryz.prog 32:=an (fn:=Tryz.f32) (by kernel_rfl) rfl (by decide)
theorem TK:aH Tryz.prog 32 yG:=aD (X:=MJ) (.cons Mx Ms (.cons NH Nt (.cons MC Mw (.nil _)))) (by kernel_rfl) yG Jl (some aK) (by kernel_rfl) (fun x y h=>(Sc x).trans h)
def Hj:List (Nat×Ann):=[]
noncomputable def wO:aA:=⟨[],[.val .bool],fun x=>CW ⟩
noncomputable def Kq:Cx:=⟨Tryz.prog,[(32,yG)],[]⟩
theorem Rl:∀ x,aV Kq Hj none Tryz.f9 wO x=wO.m x:=by intro x;kernel_rfl
theorem Ss:av Tryz.prog 9:=an (fn:=Tryz.f9) (by kernel_rfl) rfl (by decide)
theorem SO:aH Tryz.prog 9 wO:=aD (X:=Kq) (.cons TK TD (.nil _)) (by kernel_rfl) wO Hj none (by kernel_rfl) (fun x y h=>(Rl x).trans h)
def Hl:List (Nat×Ann):=[]
noncomputable def wP:aA:=⟨[.val tI,.val tI],[.val tI],fun x=>Lw x.1 x.2.1⟩
noncomputable def Kr:Cx:=⟨Tryz.prog,[],[]⟩
theorem Rm:∀ x,aV Kr Hl none Tryz.f10 wP x=wP.m x:=by intro x;kernel_rfl
theorem Su:av Tryz.prog 10:=an (fn:=Tryz.f10) (by kernel_rfl) rfl (by decide)
theorem SP:aH Tryz.prog 10 wP:=aD (X:=Kr) (.nil _) (by kernel_rfl) wP Hl none (by kernel_rfl) (fun x y h=>(Rm x).trans h)
def qK:List (Nat×Ann):=[(4,⟨[(0,.val (.slice fm)),(1,.val (.slice fm)),(12,.val tI),(13,.val tI)],[],[],bp _⟩),
 (200004,⟨[],[],[],fun _=>0⟩)]
noncomputable def gC:aA:=⟨[.val (.slice fm),.val (.slice fm)],[.val .bool],fun x=>lu x.1 x.2.1⟩
noncomputable def sQ:Cx:=⟨Tryz.prog,[],[]⟩
theorem Bc:∀ x,aV sQ qK none Tryz.f11 gC x=gC.m x:=by intro x;kernel_rfl
theorem BK:av Tryz.prog 11:=an (fn:=Tryz.f11) (by kernel_rfl) rfl (by decide)
theorem BP:aH Tryz.prog 11 gC:=aD (X:=sQ) (.nil _) (by kernel_rfl) gC qK none (by kernel_rfl) (fun x y h=>(Bc x).trans h)
def pO:List (Nat×Ann):=[(9,⟨[(4,.val tI),(72,.val (.slice fm)),(73,.val tI),(74,.val tI)],[],[],bp _⟩),
 (200009,⟨[],[],[],fun _=>0⟩),
 (300003,⟨[(10,.val .bool)],[],[],fun _=>0⟩)]
noncomputable def iF:aA:=⟨[.val bJ,.val (.slice aQ),.val ay,.val (.slice bn),.val tI],[.val .bool],fun x=>jA x.1 x.2.1 x.2.2.1 x.2.2.2.1 x.2.2.2.2.1⟩
noncomputable def qV:Cx:=⟨Tryz.prog,[(8,uO),(9,wO),(10,wP),(11,gC)],[]⟩
theorem Ac:∀ x,aV qV pO none Tryz.f3 iF x=iF.m x:=by intro x;kernel_rfl
theorem AX:aH Tryz.prog 3 iF:=aD (X:=qV) (.cons Rx Ro (.cons SO Ss (.cons SP Su (.cons BP BK (.nil _))))) (by kernel_rfl) iF pO none (by kernel_rfl) (fun x y h=>(Ac x).trans h)
end Go.Proofs.SeatA
