/-
  Each function that the law reaches is as its plain model says, second part. No condition.
-/
import Derived.Test.YtcndcnfjdanbeaaGreatDoorXw
set_option linter.all false
set_option maxRecDepth 100000
namespace Go.Proofs.SeatA
open Go.Dn Go.Md Go.Proofs
def S6:List CK:=[.val .bool,.own 192 (.int .u32)]
def gf:List CK:=[.val .bool,.own 3 tI]
def J6:List CK:=[.val .bool,.rowR 24]
def Dj:List CK:=[.val .bool,.val (.slice (.int .u32))]
def nR:List CK:=[.val .bool,.val (.slice tI)]
def acG:List CK:=[.val .str,.val .str,.val .str,.val tI,.val tI,.val (.slice fm),.val (.slice ay),.map tI .hnd,.own 133 ax,.own 177 bZ,.val tI]
def acH:List CK:=[.val .str,.val .str,.val .str,.val tI,.val tI,.val (.slice fm),.val (.slice ay),.mapR 10250003,.rowR 10250004,.rowR 10250005,.val tI]
def S7:List CK:=[.val .str,.val .str,.val .str,.val tI,.val tI,.val (.slice fm),.val (.slice ay),.own 84 aQ,.own 133 ax]
def acI:List CK:=[.val .str,.val .str,.val .str,.val tI,.val tI,.val (.slice fm),.val (.slice ay),.rowR 10250003,.rowR 10250004]
def XY:List CK:=[.val .str,.val .str,.val .str,.val tI,.val tI,.val (.slice fm),.val (.slice ay),.rowR 4000,.rowR 10250004]
def aaA:List CK:=[.val tI,.val .str,.val .str,.val tI,.val tI,.val tI,.val tI,.val tI,.val tI,.val tI,.val tI,.val tI,.val tI,.val tI,.val tI,.val tI,.val tI,.val tI,.val (.slice bZ)]
def aaB:List CK:=[.val tI,.val .str,.val .str,.val tI,.val tI,.val tI,.val tI,.val tI,.val tI,.val tI,.val tI,.val tI,.val tI,.val tI,.val tI,.val tI]
def BX:List CK:=[.val tI,.val tI,.val tI,.val tI,.val tI,.val .str,.val tI,.val tI,.val .str,.val tI,.val tI,.val tI,.val tI]
def zI:List CK:=[.val tI,.val tI]
def HN:List (Nat×Ann):=[]
noncomputable def pH:az:=⟨[.val tI],[.val ax],fun x=>nA x.1⟩
noncomputable def MJ:Cx:=⟨Tryz.prog,[(85,qM),(108,oy)],[]⟩
theorem UZ:∀ x,aM MJ HN none Tryz.f52 pH x=pH.m x:=by intro x;kernel_rfl
theorem MQ:au Tryz.prog 52:=an (fn:=Tryz.f52) (by kernel_rfl) rfl (by decide)
theorem MU:aD Tryz.prog 52 pH:=aA (X:=MJ) (.cons Jr Je (.cons Sm Sd (.nil _))) (by kernel_rfl) pH HN none (by kernel_rfl) (fun x y h=>(UZ x).trans h)
def EB:List (Nat×Ann):=[(1,⟨[(1,.ref 1 0),(2,.ref 2 0)],[(1,zI),(2,zI)],[],aS _⟩),
 (200001,⟨[(1,.ref 1 0),(2,.ref 2 0)],[(1,zI),(2,zI)],[],fun _=>0⟩),
 (300001,⟨[(11,.val .bool)],[],[],fun _=>0⟩)]
noncomputable def qo:az:=⟨[.val ax],[.val ax],fun x=>zY x.1⟩
noncomputable def HT:Cx:=⟨Tryz.prog,[],[]⟩
theorem RO:∀ x,aM HT EB none Tryz.f46 qo x=qo.m x:=by intro x;kernel_rfl
theorem TE:au Tryz.prog 46:=an (fn:=Tryz.f46) (by kernel_rfl) rfl (by decide)
theorem T7:aD Tryz.prog 46 qo:=aA (X:=HT) (.nil _) (by kernel_rfl) qo EB none (by kernel_rfl) (fun x y h=>(RO x).trans h)
def zC:List (Nat×Ann):=[]
noncomputable def kO:az:=⟨[.val .hnd,.arR aB],[.val ck],fun x=>oc x.1 x.2.1⟩
noncomputable def BC:Cx:=⟨Tryz.prog,[(43,fh),(46,qo),(52,pH)],[]⟩
theorem Lg:∀ x,aM BC zC none Tryz.f32 kO x=kO.m x:=by intro x;kernel_rfl
theorem No:au Tryz.prog 32:=an (fn:=Tryz.f32) (by kernel_rfl) rfl (by decide)
theorem Nr:aD Tryz.prog 32 kO:=aA (X:=BC) (.cons lK lH (.cons T7 TE (.cons MU MQ (.nil _)))) (by kernel_rfl) kO zC none (by kernel_rfl) (fun x y h=>(Lg x).trans h)
def xq:List (Nat×Ann):=[(1,⟨[(0,.ref 2000 0),(1,.val tI),(10,.val (.slice ay)),(11,.val tI),(12,.val tI)],[(2000,acG)],[.ar aB],aS _⟩),
 (200001,⟨[],[(2000,acG)],[.ar aB],fun _=>0⟩)]
noncomputable def fT:az:=⟨[.box [.val bp,.val (.slice ay),.map tI .hnd,.row 133 ax,.row 177 bZ,.val tI],.val tI,.ar aB],[],fun x=>gQ x.1 x.2.1 x.2.2.1⟩
noncomputable def zL:Cx:=⟨Tryz.prog,[(32,kO),(113,iT)],[]⟩
theorem IW:∀ x,aM zL xq none Tryz.f58 fT x=fT.m x:=by intro x;kernel_rfl
theorem rj:au Tryz.prog 58:=an (fn:=Tryz.f58) (by kernel_rfl) rfl (by decide)
theorem rE:aD Tryz.prog 58 fT:=aA (X:=zL) (.cons Nr No (.cons Jk I7 (.nil _))) (by kernel_rfl) fT xq none (by kernel_rfl) (fun x y h=>(IW x).trans h)
def Mu:List (Nat×Ann):=[]
noncomputable def qK:az:=⟨[.val bp,.val (.slice ay),.val tI,.ar aB],[.box [.val bp,.val (.slice ay),.map tI .hnd,.row 133 ax,.row 177 bZ,.val tI],.val tI],fun x=>Cj x.1 x.2.1 x.2.2.1 x.2.2.2.1⟩
noncomputable def QX:Cx:=⟨Tryz.prog,[(55,jh),(56,iS),(57,ga),(58,fT)],[]⟩
theorem Ya:∀ x,aM QX Mu none Tryz.f30 qK x=qK.m x:=by intro x;kernel_rfl
theorem I6:au Tryz.prog 30:=an (fn:=Tryz.f30) (by kernel_rfl) rfl (by decide)
theorem Jj:aD Tryz.prog 30 qK:=aA (X:=QX) (.cons zf za (.cons rD ri (.cons sX sV (.cons rE rj (.nil _))))) (by kernel_rfl) qK Mu none (by kernel_rfl) (fun x y h=>(Ya x).trans h)
def HM:List (Nat×Ann):=[]
noncomputable def mN:az:=⟨[.val bp,.val (.slice ay),.val tI,.ar aB],[.val .hnd,.val tI],fun x=>wY x.1 x.2.1 x.2.2.1 x.2.2.2.1⟩
noncomputable def MI:Cx:=⟨Tryz.prog,[(55,jh),(56,iS),(57,ga),(58,fT)],[]⟩
theorem UY:∀ x,aM MI HM none Tryz.f30 mN x=mN.m x:=by intro x;kernel_rfl
theorem Em:au Tryz.prog 30:=an (fn:=Tryz.f30) (by kernel_rfl) rfl (by decide)
theorem Er:aD Tryz.prog 30 mN:=aA (X:=MI) (.cons zf za (.cons rD ri (.cons sX sV (.cons rE rj (.nil _))))) (by kernel_rfl) mN HM none (by kernel_rfl) (fun x y h=>(UY x).trans h)
def tC:List (Nat×Ann):=[(3,⟨[(0,.ref 2000 0),(3,.own 68 .hnd),(11,.rowR 11),(12,.val tI),(13,.val tI)],[(2000,acH)],[.rowC 11 3 tI,.rowC 10250004 133 ax,.rowC 10250005 177 bZ,.mapC 10250003 tI .hnd],aS _⟩),
 (200003,⟨[(3,.own 68 .hnd)],[(2000,acH)],[.rowC 10250004 133 ax,.rowC 10250005 177 bZ,.mapC 10250003 tI .hnd],fun _=>0⟩)]
noncomputable def ef:az:=⟨[.box [.val bp,.val (.slice ay),.map tI .hnd,.row 133 ax,.row 177 bZ,.val tI]],[.row 68 .hnd],fun x=>gI x.1⟩
noncomputable def vo:Cx:=⟨Tryz.prog,[],[(76,ada),(77,adb)]⟩
theorem Fe:∀ x,aM vo tC none Tryz.f31 ef x=ef.m x:=by intro x;kernel_rfl
theorem nS:au Tryz.prog 31:=an (fn:=Tryz.f31) (by kernel_rfl) rfl (by decide)
theorem nW:aD Tryz.prog 31 ef:=aA (X:=vo) (.abm af1 afZ (.abm af2 af0 (.nil _))) (by kernel_rfl) ef tC none (by kernel_rfl) (fun x y h=>(Fe x).trans h)
def JN:List (Nat×Ann):=[(4,⟨[(0,.val .str),(23,.val tI),(24,.val tI)],[],[],aS _⟩),
 (200004,⟨[],[],[],fun _=>0⟩)]
noncomputable def vZ:az:=⟨[.val .str],[.val .bool],fun x=>Pu x.1⟩
noncomputable def NT:Cx:=⟨Tryz.prog,[],[]⟩
theorem W8:∀ x,aM NT JN none Tryz.f121 vZ x=vZ.m x:=by intro x;kernel_rfl
theorem Yz:au Tryz.prog 121:=an (fn:=Tryz.f121) (by kernel_rfl) rfl (by decide)
theorem YZ:aD Tryz.prog 121 vZ:=aA (X:=NT) (.nil _) (by kernel_rfl) vZ JN none (by kernel_rfl) (fun x y h=>(W8 x).trans h)
def JL:List (Nat×Ann):=[]
noncomputable def oA:az:=⟨[.val .str],[.val .bool],fun x=>nI x.1⟩
noncomputable def NR:Cx:=⟨Tryz.prog,[(121,vZ)],[]⟩
theorem W6:∀ x,aM NR JL none Tryz.f70 oA x=oA.m x:=by intro x;kernel_rfl
theorem Gt:au Tryz.prog 70:=an (fn:=Tryz.f70) (by kernel_rfl) rfl (by decide)
theorem GL:aD Tryz.prog 70 oA:=aA (X:=NR) (.cons YZ Yz (.nil _)) (by kernel_rfl) oA JL none (by kernel_rfl) (fun x y h=>(W6 x).trans h)
def JO:List (Nat×Ann):=[]
noncomputable def rZ:az:=⟨[.val tI,.val tI,.val tI],[.val .bool],fun x=>zQ x.1 x.2.1 x.2.2.1⟩
noncomputable def NU:Cx:=⟨Tryz.prog,[],[]⟩
theorem W9:∀ x,aM NU JO none Tryz.f135 rZ x=rZ.m x:=by intro x;kernel_rfl
theorem Ox:au Tryz.prog 135:=an (fn:=Tryz.f135) (by kernel_rfl) rfl (by decide)
theorem O8:aD Tryz.prog 135 rZ:=aA (X:=NU) (.nil _) (by kernel_rfl) rZ JO none (by kernel_rfl) (fun x y h=>(W9 x).trans h)
def Mz:List (Nat×Ann):=[]
noncomputable def yx:az:=⟨[.val tI],[.val .bool],fun x=>SA x.1⟩
noncomputable def Q8:Cx:=⟨Tryz.prog,[(135,rZ)],[]⟩
theorem Yf:∀ x,aM Q8 Mz none Tryz.f82 yx x=yx.m x:=by intro x;kernel_rfl
theorem ZX:au Tryz.prog 82:=an (fn:=Tryz.f82) (by kernel_rfl) rfl (by decide)
theorem aae:aD Tryz.prog 82 yx:=aA (X:=Q8) (.cons O8 Ox (.nil _)) (by kernel_rfl) yx Mz none (by kernel_rfl) (fun x y h=>(Yf x).trans h)
def Mv:List (Nat×Ann):=[]
noncomputable def nJ:az:=⟨[.val tI],[.val .bool],fun x=>zk x.1⟩
noncomputable def QY:Cx:=⟨Tryz.prog,[(82,yx)],[]⟩
theorem Yb:∀ x,aM QY Mv none Tryz.f39 nJ x=nJ.m x:=by intro x;kernel_rfl
theorem CC:au Tryz.prog 39:=an (fn:=Tryz.f39) (by kernel_rfl) rfl (by decide)
theorem CF:aD Tryz.prog 39 nJ:=aA (X:=QY) (.cons aae ZX (.nil _)) (by kernel_rfl) nJ Mv none (by kernel_rfl) (fun x y h=>(Yb x).trans h)
def JU:List (Nat×Ann):=[(300001,⟨[(6,.val .bool)],[],[],fun _=>0⟩)]
noncomputable def ke:az:=⟨[.val tI,.val tI,.val tI],[.val .bool],fun x=>lQ x.1 x.2.1 x.2.2.1⟩
noncomputable def N6:Cx:=⟨Tryz.prog,[],[]⟩
theorem Xf:∀ x,aM N6 JU none Tryz.f38 ke x=ke.m x:=by intro x;kernel_rfl
theorem vw:au Tryz.prog 38:=an (fn:=Tryz.f38) (by kernel_rfl) rfl (by decide)
theorem vE:aD Tryz.prog 38 ke:=aA (X:=N6) (.nil _) (by kernel_rfl) ke JU none (by kernel_rfl) (fun x y h=>(Xf x).trans h)
def Ad:List (Nat×Ann):=[]
noncomputable def jA:az:=⟨[.val ax],[.val tI],fun x=>mz x.1⟩
noncomputable def Dt:Cx:=⟨Tryz.prog,[(135,rZ)],[]⟩
theorem Ni:∀ x,aM Dt Ad none Tryz.f94 jA x=jA.m x:=by intro x;kernel_rfl
theorem DB:au Tryz.prog 94:=an (fn:=Tryz.f94) (by kernel_rfl) rfl (by decide)
theorem DM:aD Tryz.prog 94 jA:=aA (X:=Dt) (.cons O8 Ox (.nil _)) (by kernel_rfl) jA Ad none (by kernel_rfl) (fun x y h=>(Ni x).trans h)
def ME:List (Nat×Ann):=[]
noncomputable def uv:az:=⟨[.val tI],[.val ax],fun x=>Cq x.1⟩
noncomputable def Re:Cx:=⟨Tryz.prog,[],[]⟩
theorem Yk:∀ x,aM Re ME none Tryz.f122 uv x=uv.m x:=by intro x;kernel_rfl
theorem Rq:au Tryz.prog 122:=an (fn:=Tryz.f122) (by kernel_rfl) rfl (by decide)
theorem Ru:aD Tryz.prog 122 uv:=aA (X:=Re) (.nil _) (by kernel_rfl) uv ME none (by kernel_rfl) (fun x y h=>(Yk x).trans h)
def SR:List (Nat×Ann):=[(2,⟨[(0,.val tI),(2,.ref 2 0),(3,.ref 3 0)],[(2,gf),(3,gf)],[],aS _⟩),
 (200002,⟨[(2,.ref 2 0),(3,.ref 3 0)],[(2,gf),(3,gf)],[],fun _=>0⟩)]
noncomputable def Cs:az:=⟨[.val tI],[.val bE],fun x=>Qh x.1⟩
noncomputable def X7:Cx:=⟨Tryz.prog,[],[]⟩
theorem acU:∀ x,aM X7 SR none Tryz.f96 Cs x=Cs.m x:=by intro x;kernel_rfl
theorem Yy:au Tryz.prog 96:=an (fn:=Tryz.f96) (by kernel_rfl) rfl (by decide)
theorem YY:aD Tryz.prog 96 Cs:=aA (X:=X7) (.nil _) (by kernel_rfl) Cs SR none (by kernel_rfl) (fun x y h=>(acU x).trans h)
def HP:List (Nat×Ann):=[(1,⟨[(1,.ref 1 0),(2,.ref 2 0)],[(1,nR),(2,gf)],[],aS _⟩),
 (200001,⟨[(1,.ref 1 0),(2,.ref 2 0)],[(1,nR),(2,gf)],[],fun _=>0⟩)]
noncomputable def pJ:az:=⟨[.val bE],[.val bE],fun x=>qn x.1⟩
noncomputable def ML:Cx:=⟨Tryz.prog,[],[]⟩
theorem U7:∀ x,aM ML HP none Tryz.f143 pJ x=pJ.m x:=by intro x;kernel_rfl
theorem MS:au Tryz.prog 143:=an (fn:=Tryz.f143) (by kernel_rfl) rfl (by decide)
theorem MW:aD Tryz.prog 143 pJ:=aA (X:=ML) (.nil _) (by kernel_rfl) pJ HP none (by kernel_rfl) (fun x y h=>(U7 x).trans h)
def HO:List (Nat×Ann):=[(3,⟨[(3,.ref 3 0),(4,.ref 4 0),(5,.ref 5 0),(27,.val (.slice tI)),(28,.val tI),(29,.val tI)],[(3,nR),(4,gf),(5,J6)],[.rowC 24 3 tI],aS _⟩),
 (6,⟨[(3,.ref 3 0),(4,.ref 4 0),(5,.ref 5 0),(6,.val tI),(7,.val tI),(27,.val (.slice tI)),(28,.val tI),(29,.val tI),(35,.val (.slice tI)),(36,.val tI),(37,.val tI)],[(3,nR),(4,gf),(5,J6)],[.rowC 24 3 tI],aS _⟩),
 (14,⟨[(4,.ref 4 0),(5,.ref 5 0),(86,.val tI),(87,.val tI)],[(4,gf),(5,J6)],[.rowC 24 3 tI],aS _⟩),
 (200003,⟨[(4,.ref 4 0),(5,.ref 5 0)],[(4,gf),(5,J6)],[.rowC 24 3 tI],fun _=>0⟩),
 (200006,⟨[(3,.ref 3 0),(4,.ref 4 0),(5,.ref 5 0),(27,.val (.slice tI)),(28,.val tI),(29,.val tI)],[(3,nR),(4,gf),(5,J6)],[.rowC 24 3 tI],fun _=>0⟩),
 (200014,⟨[(4,.ref 4 0),(5,.ref 5 0)],[(4,gf),(5,J6)],[.rowC 24 3 tI],fun _=>0⟩)]
noncomputable def pI:az:=⟨[.val bE,.val bE],[.val bE],fun x=>w6 x.1 x.2.1⟩
noncomputable def MK:Cx:=⟨Tryz.prog,[(143,pJ)],[]⟩
theorem U6:∀ x,aM MK HO none Tryz.f95 pI x=pI.m x:=by intro x;kernel_rfl
theorem MR:au Tryz.prog 95:=an (fn:=Tryz.f95) (by kernel_rfl) rfl (by decide)
theorem MV:aD Tryz.prog 95 pI:=aA (X:=MK) (.cons MW MS (.nil _)) (by kernel_rfl) pI HO none (by kernel_rfl) (fun x y h=>(U6 x).trans h)
def Mx:List (Nat×Ann):=[(3,⟨[(2,.ref 2 0),(3,.ref 3 0),(5,.val tI),(6,.val tI)],[(2,gf),(3,nR)],[],aS _⟩),
 (200003,⟨[(2,.ref 2 0),(3,.ref 3 0)],[(2,gf),(3,nR)],[],fun _=>0⟩)]
noncomputable def yt:az:=⟨[.val tI],[.val bE],fun x=>Mc x.1⟩
noncomputable def Q6:Cx:=⟨Tryz.prog,[(95,pI),(96,Cs)],[]⟩
theorem Yd:∀ x,aM Q6 Mx none Tryz.f98 yt x=yt.m x:=by intro x;kernel_rfl
theorem ZV:au Tryz.prog 98:=an (fn:=Tryz.f98) (by kernel_rfl) rfl (by decide)
theorem aac:aD Tryz.prog 98 yt:=aA (X:=Q6) (.cons MV MR (.cons YY Yy (.nil _))) (by kernel_rfl) yt Mx none (by kernel_rfl) (fun x y h=>(Yd x).trans h)
def SQ:List (Nat×Ann):=[]
noncomputable def Ho:az:=⟨[.val ax,.val tI],[.val bE],fun x=>Fv x.1 x.2.1⟩
noncomputable def X6:Cx:=⟨Tryz.prog,[(95,pI),(96,Cs),(98,yt)],[]⟩
theorem acT:∀ x,aM X6 SQ none Tryz.f103 Ho x=Ho.m x:=by intro x;kernel_rfl
theorem aeg:au Tryz.prog 103:=an (fn:=Tryz.f103) (by kernel_rfl) rfl (by decide)
theorem aeA:aD Tryz.prog 103 Ho:=aA (X:=X6) (.cons MV MR (.cons YY Yy (.cons aac ZV (.nil _)))) (by kernel_rfl) Ho SQ none (by kernel_rfl) (fun x y h=>(acT x).trans h)
def Mw:List (Nat×Ann):=[]
noncomputable def yq:az:=⟨[.val bE],[.val bE],fun x=>Ma x.1⟩
noncomputable def QZ:Cx:=⟨Tryz.prog,[],[]⟩
theorem Yc:∀ x,aM QZ Mw none Tryz.f100 yq x=yq.m x:=by intro x;kernel_rfl
theorem ZU:au Tryz.prog 100:=an (fn:=Tryz.f100) (by kernel_rfl) rfl (by decide)
theorem aab:aD Tryz.prog 100 yq:=aA (X:=QZ) (.nil _) (by kernel_rfl) yq Mw none (by kernel_rfl) (fun x y h=>(Yc x).trans h)
def MA:List (Nat×Ann):=[(4,⟨[(0,.val (.slice tI)),(1,.val (.slice tI)),(5,.val tI)],[],[],aS _⟩),
 (200004,⟨[],[],[],fun _=>0⟩)]
noncomputable def yy:az:=⟨[.val (.slice tI),.val (.slice tI)],[.val tI],fun x=>Me x.1 x.2.1⟩
noncomputable def Q9:Cx:=⟨Tryz.prog,[],[]⟩
theorem Yg:∀ x,aM Q9 MA none Tryz.f146 yy x=yy.m x:=by intro x;kernel_rfl
theorem ZY:au Tryz.prog 146:=an (fn:=Tryz.f146) (by kernel_rfl) rfl (by decide)
theorem aaf:aD Tryz.prog 146 yy:=aA (X:=Q9) (.nil _) (by kernel_rfl) yy MA none (by kernel_rfl) (fun x y h=>(Yg x).trans h)
def My:List (Nat×Ann):=[]
noncomputable def yu:az:=⟨[.val (.slice tI),.val tI],[.val tI],fun x=>Cp x.1 x.2.1⟩
noncomputable def Q7:Cx:=⟨Tryz.prog,[],[]⟩
theorem Ye:∀ x,aM Q7 My none Tryz.f147 yu x=yu.m x:=by intro x;kernel_rfl
theorem ZW:au Tryz.prog 147:=an (fn:=Tryz.f147) (by kernel_rfl) rfl (by decide)
theorem aad:aD Tryz.prog 147 yu:=aA (X:=Q7) (.nil _) (by kernel_rfl) yu My none (by kernel_rfl) (fun x y h=>(Ye x).trans h)
def Ny:List (Nat×Ann):=[(7,⟨[(2,.ref 2 0),(3,.ref 3 0),(4,.ref 4 0),(5,.ref 5 0),(6,.val tI),(31,.val tI),(32,.val tI)],[(2,nR),(3,nR),(4,gf),(5,gf)],[],aS _⟩),
 (19,⟨[(2,.ref 2 0),(3,.ref 3 0),(4,.ref 4 0),(9,.ref 9 0),(10,.val tI),(70,.val tI),(71,.val tI)],[(2,nR),(3,nR),(4,gf),(9,gf)],[],aS _⟩),
 (100003,⟨[(2,.ref 2 0),(3,.ref 3 0),(4,.ref 4 0)],[(2,nR),(3,nR),(4,gf)],[],fun _=>0⟩),
 (100012,⟨[(2,.ref 2 0),(3,.ref 3 0),(4,.ref 4 0),(5,.ref 5 0),(6,.val tI),(8,.val tI),(31,.val tI),(32,.val tI)],[(2,nR),(3,nR),(4,gf),(5,gf)],[],fun _=>0⟩),
 (200007,⟨[(4,.ref 4 0),(5,.ref 5 0)],[(4,gf),(5,gf)],[],fun _=>0⟩),
 (200019,⟨[(4,.ref 4 0),(9,.ref 9 0)],[(4,gf),(9,gf)],[],fun _=>0⟩)]
noncomputable def Be:az:=⟨[.val bE,.val bE],[.val bE],fun x=>Qi x.1 x.2.1⟩
noncomputable def S8:Cx:=⟨Tryz.prog,[(143,pJ),(146,yy),(147,yu)],[]⟩
theorem ZI:∀ x,aM S8 Ny none Tryz.f102 Be x=Be.m x:=by intro x;kernel_rfl
theorem abC:au Tryz.prog 102:=an (fn:=Tryz.f102) (by kernel_rfl) rfl (by decide)
theorem abR:aD Tryz.prog 102 Be:=aA (X:=S8) (.cons MW MS (.cons aaf ZY (.cons aad ZW (.nil _)))) (by kernel_rfl) Be Ny none (by kernel_rfl) (fun x y h=>(ZI x).trans h)
def Nz:List (Nat×Ann):=[]
noncomputable def Bf:az:=⟨[.val bE],[.val tI],fun x=>Qj x.1⟩
noncomputable def S9:Cx:=⟨Tryz.prog,[],[]⟩
theorem ZJ:∀ x,aM S9 Nz none Tryz.f99 Bf x=Bf.m x:=by intro x;kernel_rfl
theorem abD:au Tryz.prog 99:=an (fn:=Tryz.f99) (by kernel_rfl) rfl (by decide)
theorem abS:aD Tryz.prog 99 Bf:=aA (X:=S9) (.nil _) (by kernel_rfl) Bf Nz none (by kernel_rfl) (fun x y h=>(ZJ x).trans h)
def QM:List (Nat×Ann):=[]
noncomputable def D8:az:=⟨[.val bE,.val bE],[.val tI],fun x=>Pt x.1 x.2.1⟩
noncomputable def Wf:Cx:=⟨Tryz.prog,[(99,Bf),(100,yq),(102,Be)],[]⟩
theorem abo:∀ x,aM Wf QM none Tryz.f123 D8 x=D8.m x:=by intro x;kernel_rfl
theorem ac1:au Tryz.prog 123:=an (fn:=Tryz.f123) (by kernel_rfl) rfl (by decide)
theorem adv:aD Tryz.prog 123 D8:=aA (X:=Wf) (.cons abS abD (.cons aab ZU (.cons abR abC (.nil _)))) (by kernel_rfl) D8 QM none (by kernel_rfl) (fun x y h=>(abo x).trans h)
def QS:List (Nat×Ann):=[]
noncomputable def wh:az:=⟨[.val ax,.val ax],[.val tI],fun x=>vR x.1 x.2.1⟩
noncomputable def Wi:Cx:=⟨Tryz.prog,[(103,Ho),(123,D8)],[]⟩
theorem abr:∀ x,aM Wi QS none Tryz.f73 wh x=wh.m x:=by intro x;kernel_rfl
theorem Oy:au Tryz.prog 73:=an (fn:=Tryz.f73) (by kernel_rfl) rfl (by decide)
theorem O9:aD Tryz.prog 73 wh:=aA (X:=Wi) (.cons aeA aeg (.cons adv ac1 (.nil _))) (by kernel_rfl) wh QS none (by kernel_rfl) (fun x y h=>(abr x).trans h)
def zE:List (Nat×Ann):=[(300001,⟨[(32,.val .bool)],[],[],fun _=>0⟩)]
noncomputable def iJ:az:=⟨[.val ax,.val .bool],[.val tI],fun x=>oo x.1 x.2.1⟩
noncomputable def BE:Cx:=⟨Tryz.prog,[(73,wh),(94,jA),(122,uv)],[]⟩
theorem Li:∀ x,aM BE zE none Tryz.f71 iJ x=iJ.m x:=by intro x;kernel_rfl
theorem BI:au Tryz.prog 71:=an (fn:=Tryz.f71) (by kernel_rfl) rfl (by decide)
theorem BL:aD Tryz.prog 71 iJ:=aA (X:=BE) (.cons O9 Oy (.cons DM DB (.cons Ru Rq (.nil _)))) (by kernel_rfl) iJ zE none (by kernel_rfl) (fun x y h=>(Li x).trans h)
def De:List (Nat×Ann):=[]
noncomputable def kV:az:=⟨[.val ax],[.val tI],fun x=>tT x.1⟩
noncomputable def Gc:Cx:=⟨Tryz.prog,[(73,wh),(94,jA),(122,uv)],[]⟩
theorem Qt:∀ x,aM Gc De none Tryz.f184 kV x=kV.m x:=by intro x;kernel_rfl
theorem Gu:au Tryz.prog 184:=an (fn:=Tryz.f184) (by kernel_rfl) rfl (by decide)
theorem GM:aD Tryz.prog 184 kV:=aA (X:=Gc) (.cons O9 Oy (.cons DM DB (.cons Ru Rq (.nil _)))) (by kernel_rfl) kV De none (by kernel_rfl) (fun x y h=>(Qt x).trans h)
def EJ:List (Nat×Ann):=[(300004,⟨[(16,.val .bool)],[],[],fun _=>0⟩)]
noncomputable def qv:az:=⟨[.val bp,.val tI],[.val tI],fun x=>A6 x.1 x.2.1⟩
noncomputable def H7:Cx:=⟨Tryz.prog,[(38,ke),(70,oA),(71,iJ),(184,kV)],[]⟩
theorem RW:∀ x,aM H7 EJ none Tryz.f131 qv x=qv.m x:=by intro x;kernel_rfl
theorem TJ:au Tryz.prog 131:=an (fn:=Tryz.f131) (by kernel_rfl) rfl (by decide)
theorem Uc:aD Tryz.prog 131 qv:=aA (X:=H7) (.cons vE vw (.cons GL Gt (.cons BL BI (.cons GM Gu (.nil _))))) (by kernel_rfl) qv EJ none (by kernel_rfl) (fun x y h=>(RW x).trans h)
def Dd:List (Nat×Ann):=[(12,⟨[(1,.ref 1 0),(51,.val tI),(52,.val tI)],[(1,[.val .str,.val .str,.val .str,.val tI,.val tI,.val (.slice fm)])],[],aS _⟩),
 (200012,⟨[],[],[],fun _=>0⟩)]
noncomputable def oC:az:=⟨[.val bp],[.val tI],fun x=>yR x.1⟩
noncomputable def Ga:Cx:=⟨Tryz.prog,[(38,ke),(39,nJ),(70,oA),(131,qv)],[]⟩
theorem Qs:∀ x,aM Ga Dd none Tryz.f80 oC x=oC.m x:=by intro x;kernel_rfl
theorem Sg:au Tryz.prog 80:=an (fn:=Tryz.f80) (by kernel_rfl) rfl (by decide)
theorem Sr:aD Tryz.prog 80 oC:=aA (X:=Ga) (.cons vE vw (.cons CF CC (.cons GL Gt (.cons Uc TJ (.nil _))))) (by kernel_rfl) oC Dd none (by kernel_rfl) (fun x y h=>(Qs x).trans h)
def FU:List (Nat×Ann):=[]
noncomputable def sd:az:=⟨[.val tI],[.val .bool],fun x=>CX x.1⟩
noncomputable def Ki:Cx:=⟨Tryz.prog,[(38,ke)],[]⟩
theorem Tn:∀ x,aM Ki FU none Tryz.f132 sd x=sd.m x:=by intro x;kernel_rfl
theorem Vh:au Tryz.prog 132:=an (fn:=Tryz.f132) (by kernel_rfl) rfl (by decide)
theorem Vy:aD Tryz.prog 132 sd:=aA (X:=Ki) (.cons vE vw (.nil _)) (by kernel_rfl) sd FU none (by kernel_rfl) (fun x y h=>(Tn x).trans h)
def JT:List (Nat×Ann):=[(100005,⟨[(2,.ref 2 0),(3,.val tI),(7,.val .bool)],[(2,[.val .bool,.val .bool,.val .bool,.val .bool,.val .bool])],[],fun _=>0⟩)]
noncomputable def oD:az:=⟨[.val tI],[.val JE],fun x=>D7 x.1⟩
noncomputable def NZ:Cx:=⟨Tryz.prog,[],[]⟩
theorem Xe:∀ x,aM NZ JT none Tryz.f66 oD x=oD.m x:=by intro x;kernel_rfl
theorem Gv:au Tryz.prog 66:=an (fn:=Tryz.f66) (by kernel_rfl) rfl (by decide)
theorem GN:aD Tryz.prog 66 oD:=aA (X:=NZ) (.nil _) (by kernel_rfl) oD JT none (by kernel_rfl) (fun x y h=>(Xe x).trans h)
def Bw:List (Nat×Ann):=[(300002,⟨[(8,.val .bool)],[],[],fun _=>0⟩),
 (300004,⟨[(20,.val .bool)],[],[],fun _=>0⟩),
 (300006,⟨[(29,.val .bool)],[],[],fun _=>0⟩),
 (300008,⟨[(38,.val .bool)],[],[],fun _=>0⟩),
 (300010,⟨[(53,.val .bool)],[],[],fun _=>0⟩),
 (300013,⟨[(114,.val .bool)],[],[],fun _=>0⟩)]
noncomputable def nh:az:=⟨[.val ay],[.val tI],fun x=>xj x.1⟩
noncomputable def ET:Cx:=⟨Tryz.prog,[(38,ke),(39,nJ),(66,oD),(70,oA),(71,iJ),(184,kV)],[]⟩
theorem Of:∀ x,aM ET Bw none Tryz.f133 nh x=nh.m x:=by intro x;kernel_rfl
theorem QB:au Tryz.prog 133:=an (fn:=Tryz.f133) (by kernel_rfl) rfl (by decide)
theorem QH:aD Tryz.prog 133 nh:=aA (X:=ET) (.cons vE vw (.cons CF CC (.cons GN Gv (.cons GL Gt (.cons BL BI (.cons GM Gu (.nil _))))))) (by kernel_rfl) nh Bw none (by kernel_rfl) (fun x y h=>(Of x).trans h)
end Go.Proofs.SeatA
set_option maxRecDepth 100000
namespace Go.Proofs.SeatA
open Go.Dn Go.Md Go.Proofs
def EK:List (Nat×Ann):=[(2,⟨[(22,.rowR 22),(23,.val tI),(24,.val tI)],[],[.rowC 22 3 tI],aS _⟩),
 (200002,⟨[],[],[],fun _=>0⟩)]
noncomputable def qw:az:=⟨[.val ay,.val ay],[.val tI],fun x=>vS x.1 x.2.1⟩
noncomputable def H8:Cx:=⟨Tryz.prog,[],[]⟩
theorem RX:∀ x,aM H8 EK none Tryz.f134 qw x=qw.m x:=by intro x;kernel_rfl
theorem TK:au Tryz.prog 134:=an (fn:=Tryz.f134) (by kernel_rfl) rfl (by decide)
theorem Ud:aD Tryz.prog 134 qw:=aA (X:=H8) (.nil _) (by kernel_rfl) qw EK none (by kernel_rfl) (fun x y h=>(RX x).trans h)
def JS:List (Nat×Ann):=[(3,⟨[(1,.val tI),(5,.val tI),(8,.val (.slice ay)),(9,.val tI),(10,.val tI)],[],[],aS _⟩),
 (200003,⟨[(5,.val tI)],[],[],fun _=>0⟩)]
noncomputable def se:az:=⟨[.val (.slice ay),.val tI],[.val tI],fun x=>DY x.1 x.2.1⟩
noncomputable def NY:Cx:=⟨Tryz.prog,[],[]⟩
theorem Xd:∀ x,aM NY JS none Tryz.f64 se x=se.m x:=by intro x;kernel_rfl
theorem Oz:au Tryz.prog 64:=an (fn:=Tryz.f64) (by kernel_rfl) rfl (by decide)
theorem Pb:aD Tryz.prog 64 se:=aA (X:=NY) (.nil _) (by kernel_rfl) se JS none (by kernel_rfl) (fun x y h=>(Xd x).trans h)
def Dc:List (Nat×Ann):=[(4,⟨[(0,.val (.slice ay)),(9,.val (.slice ay)),(10,.val tI),(11,.val tI)],[],[],aS _⟩),
 (200004,⟨[],[],[],fun _=>0⟩),
 (300008,⟨[(21,.val .bool)],[],[],fun _=>0⟩),
 (300019,⟨[(70,.val .bool)],[],[],fun _=>0⟩)]
noncomputable def oB:az:=⟨[.val (.slice ay)],[.val tI],fun x=>yQ x.1⟩
noncomputable def F9:Cx:=⟨Tryz.prog,[(38,ke),(39,nJ),(64,se),(132,sd),(133,nh),(134,qw)],[]⟩
theorem Qr:∀ x,aM F9 Dc none Tryz.f81 oB x=oB.m x:=by intro x;kernel_rfl
theorem Sf:au Tryz.prog 81:=an (fn:=Tryz.f81) (by kernel_rfl) rfl (by decide)
theorem Sq:aD Tryz.prog 81 oB:=aA (X:=F9) (.cons vE vw (.cons CF CC (.cons Pb Oz (.cons Vy Vh (.cons QH QB (.cons Ud TK (.nil _))))))) (by kernel_rfl) oB Dc none (by kernel_rfl) (fun x y h=>(Qr x).trans h)
def QO:List (Nat×Ann):=[]
noncomputable def Ea:az:=⟨[.val bp,.val (.slice ay)],[.val tI],fun x=>Uu x.1 x.2.1⟩
noncomputable def Wh:Cx:=⟨Tryz.prog,[(80,oC),(81,oB)],[]⟩
theorem abq:∀ x,aM Wh QO none Tryz.f37 Ea x=Ea.m x:=by intro x;kernel_rfl
theorem ac3:au Tryz.prog 37:=an (fn:=Tryz.f37) (by kernel_rfl) rfl (by decide)
theorem adx:aD Tryz.prog 37 Ea:=aA (X:=Wh) (.cons Sr Sg (.cons Sq Sf (.nil _))) (by kernel_rfl) Ea QO none (by kernel_rfl) (fun x y h=>(abq x).trans h)
def JR:List (Nat×Ann):=[]
noncomputable def lX:az:=⟨[.val bp,.val (.slice ay),.val tI],[.val tI],fun x=>vQ x.1 x.2.1 x.2.2.1⟩
noncomputable def NX:Cx:=⟨Tryz.prog,[(37,Ea),(39,nJ)],[]⟩
theorem Xc:∀ x,aM NX JR none Tryz.f33 lX x=lX.m x:=by intro x;kernel_rfl
theorem Au:au Tryz.prog 33:=an (fn:=Tryz.f33) (by kernel_rfl) rfl (by decide)
theorem AE:aD Tryz.prog 33 lX:=aA (X:=NX) (.cons adx ac3 (.cons CF CC (.nil _))) (by kernel_rfl) lX JR none (by kernel_rfl) (fun x y h=>(Xc x).trans h)
def JM:List (Nat×Ann):=[(1,⟨[(1,.ref 1 0),(2,.ref 2 0)],[(1,zI),(2,zI)],[],aS _⟩),
 (200001,⟨[(1,.ref 1 0),(2,.ref 2 0)],[(1,zI),(2,zI)],[],fun _=>0⟩)]
noncomputable def lW:az:=⟨[.val ax],[.val ax],fun x=>gU x.1⟩
noncomputable def NS:Cx:=⟨Tryz.prog,[],[]⟩
theorem W7:∀ x,aM NS JM none Tryz.f49 lW x=lW.m x:=by intro x;kernel_rfl
theorem As:au Tryz.prog 49:=an (fn:=Tryz.f49) (by kernel_rfl) rfl (by decide)
theorem AD:aD Tryz.prog 49 lW:=aA (X:=NS) (.nil _) (by kernel_rfl) lW JM none (by kernel_rfl) (fun x y h=>(W7 x).trans h)
def MC:List (Nat×Ann):=[(3,⟨[(3,.val tI),(8,.val tI),(9,.val tI)],[],[],aS _⟩),
 (200003,⟨[(3,.val tI)],[],[],fun _=>0⟩)]
noncomputable def qL:az:=⟨[.val ax],[.val tI],fun x=>qG x.1⟩
noncomputable def Rb:Cx:=⟨Tryz.prog,[],[]⟩
theorem Yi:∀ x,aM Rb MC none Tryz.f115 qL x=qL.m x:=by intro x;kernel_rfl
theorem Jc:au Tryz.prog 115:=an (fn:=Tryz.f115) (by kernel_rfl) rfl (by decide)
theorem Jp:aD Tryz.prog 115 qL:=aA (X:=Rb) (.nil _) (by kernel_rfl) qL MC none (by kernel_rfl) (fun x y h=>(Yi x).trans h)
def NB:List (Nat×Ann):=[]
noncomputable def td:az:=⟨[.val ax,.val ax],[.val ax],fun x=>mA x.1 x.2.1⟩
noncomputable def Tb:Cx:=⟨Tryz.prog,[(49,lW),(115,qL)],[]⟩
theorem ZL:∀ x,aM Tb NB none Tryz.f117 td x=td.m x:=by intro x;kernel_rfl
theorem LD:au Tryz.prog 117:=an (fn:=Tryz.f117) (by kernel_rfl) rfl (by decide)
theorem LV:aD Tryz.prog 117 td:=aA (X:=Tb) (.cons AD As (.cons Jp Jc (.nil _))) (by kernel_rfl) td NB none (by kernel_rfl) (fun x y h=>(ZL x).trans h)
def MD:List (Nat×Ann):=[]
noncomputable def ur:az:=⟨[.val ax,.val ax],[.val ax],fun x=>G7 x.1 x.2.1⟩
noncomputable def Rc:Cx:=⟨Tryz.prog,[(117,td)],[]⟩
theorem Yj:∀ x,aM Rc MD none Tryz.f74 ur x=ur.m x:=by intro x;kernel_rfl
theorem Rp:au Tryz.prog 74:=an (fn:=Tryz.f74) (by kernel_rfl) rfl (by decide)
theorem Rt:aD Tryz.prog 74 ur:=aA (X:=Rc) (.cons LV LD (.nil _)) (by kernel_rfl) ur MD none (by kernel_rfl) (fun x y h=>(Yj x).trans h)
def NA:List (Nat×Ann):=[]
noncomputable def tc:az:=⟨[.val ck],[.val ax],fun x=>zR x.1⟩
noncomputable def Ta:Cx:=⟨Tryz.prog,[(74,ur)],[]⟩
theorem ZK:∀ x,aM Ta NA none Tryz.f114 tc x=tc.m x:=by intro x;kernel_rfl
theorem LC:au Tryz.prog 114:=an (fn:=Tryz.f114) (by kernel_rfl) rfl (by decide)
theorem LU:aD Tryz.prog 114 tc:=aA (X:=Ta) (.cons Rt Rp (.nil _)) (by kernel_rfl) tc NA none (by kernel_rfl) (fun x y h=>(ZK x).trans h)
def FV:List (Nat×Ann):=[]
noncomputable def nP:az:=⟨[.val ck],[.val ck],fun x=>qH x.1⟩
noncomputable def Kj:Cx:=⟨Tryz.prog,[(74,ur),(114,tc)],[]⟩
theorem To:∀ x,aM Kj FV none Tryz.f78 nP x=nP.m x:=by intro x;kernel_rfl
theorem KB:au Tryz.prog 78:=an (fn:=Tryz.f78) (by kernel_rfl) rfl (by decide)
theorem KJ:aD Tryz.prog 78 nP:=aA (X:=Kj) (.cons Rt Rp (.cons LU LC (.nil _))) (by kernel_rfl) nP FV none (by kernel_rfl) (fun x y h=>(To x).trans h)
def Bu:List (Nat×Ann):=[(2,⟨[(1,.val tI),(10,.val (.slice aQ)),(11,.val tI),(12,.val tI)],[],[],aS _⟩),
 (200002,⟨[],[],[],fun _=>0⟩)]
noncomputable def ko:az:=⟨[.val (.ptr fq),.val tI],[.val tI],fun x=>rU x.1 x.2.1⟩
noncomputable def ER:Cx:=⟨Tryz.prog,[],[]⟩
theorem Od:∀ x,aM ER Bu none Tryz.f40 ko x=ko.m x:=by intro x;kernel_rfl
theorem EW:au Tryz.prog 40:=an (fn:=Tryz.f40) (by kernel_rfl) rfl (by decide)
theorem EZ:aD Tryz.prog 40 ko:=aA (X:=ER) (.nil _) (by kernel_rfl) ko Bu none (by kernel_rfl) (fun x y h=>(Od x).trans h)
def EI:List (Nat×Ann):=[]
noncomputable def qu:az:=⟨[.val (.ptr fq),.val ck],[.val tI],fun x=>AZ x.1 x.2.1⟩
noncomputable def H6:Cx:=⟨Tryz.prog,[(115,qL)],[]⟩
theorem RV:∀ x,aM H6 EI none Tryz.f116 qu x=qu.m x:=by intro x;kernel_rfl
theorem TI:au Tryz.prog 116:=an (fn:=Tryz.f116) (by kernel_rfl) rfl (by decide)
theorem Ub:aD Tryz.prog 116 qu:=aA (X:=H6) (.cons Jp Jc (.nil _)) (by kernel_rfl) qu EI none (by kernel_rfl) (fun x y h=>(RV x).trans h)
def Ae:List (Nat×Ann):=[(100017,⟨[(0,.val (.ptr fq)),(5,.ref 5 0),(7,.ref 7 0),(8,.ref 8 0),(64,.val tI),(65,.val .bool)],[(5,BX),(7,aaA),(8,aaB)],[],fun _=>0⟩),
 (100022,⟨[(0,.val (.ptr fq)),(5,.ref 5 0),(7,.ref 7 0),(8,.ref 8 0),(64,.val tI),(72,.val .bool)],[(5,BX),(7,aaA),(8,aaB)],[],fun _=>0⟩),
 (300007,⟨[(37,.val .bool)],[],[],fun _=>0⟩),
 (300009,⟨[(51,.val .bool)],[],[],fun _=>0⟩),
 (300025,⟨[(121,.val .bool)],[],[],fun _=>0⟩)]
noncomputable def jB:az:=⟨[.val (.ptr fq),.val tI],[.val tI],fun x=>gC x.1 x.2.1⟩
noncomputable def Du:Cx:=⟨Tryz.prog,[(40,ko),(66,oD),(73,wh),(114,tc),(115,qL),(116,qu),(117,td)],[]⟩
theorem Nj:∀ x,aM Du Ae none Tryz.f67 jB x=jB.m x:=by intro x;kernel_rfl
theorem DC:au Tryz.prog 67:=an (fn:=Tryz.f67) (by kernel_rfl) rfl (by decide)
theorem DN:aD Tryz.prog 67 jB:=aA (X:=Du) (.cons EZ EW (.cons GN Gv (.cons O9 Oy (.cons LU LC (.cons Jp Jc (.cons Ub TI (.cons LV LD (.nil _)))))))) (by kernel_rfl) jB Ae none (by kernel_rfl) (fun x y h=>(Nj x).trans h)
noncomputable def Ak:Cx:=⟨Tryz.prog,[(49,lW)],[]⟩
noncomputable def xK:Code:=(Tryz.f129.body).getD .skip
theorem Kp:∀ (e:TypeId) (vs:List Value) (l:(List aa)) (ql:(List ak)) (i:Nat),den Ak [] xK (List CV×TypeId×(List ak)) (Ls Tryz.f129.ntmps 6 9 e ay aQ vs l ql i) (acY aQ)=kL l ql i (fun q=>some (mK 6 9 ay l vs,e,q)):=by intro e vs l ql i;kernel_rfl
def aaM:BR:= .elt 6 9 ay aQ iA
theorem afo:au Tryz.prog 129:=an (fn:=Tryz.f129) (by kernel_rfl) rfl (by decide)
theorem afp:PL Tryz.prog 129 aaM:=afY (X:=Ak) (.cons AD As (.nil _)) (by kernel_rfl) (fn:=Tryz.f129) (c:=xK) 6 9 ay aQ iA [] (by kernel_rfl) (by kernel_rfl) (by kernel_rfl) (by decide) (fun e vs l ql i=>(Kp e vs l ql i).trans (Jz l ql i _))
def sB:List (Nat×Ann):=[]
noncomputable def gF:az:=⟨[.val (.slice bZ)],[.row 177 bZ],fun x=>iQ x.1⟩
noncomputable def uK:Cx:=⟨Tryz.prog,[],[]⟩
theorem Ek:∀ x,aM uK sB none Tryz.f130 gF x=gF.m x:=by intro x;kernel_rfl
theorem Fl:au Tryz.prog 130:=an (fn:=Tryz.f130) (by kernel_rfl) rfl (by decide)
theorem Ft:aD Tryz.prog 130 gF:=aA (X:=uK) (.nil _) (by kernel_rfl) gF sB none (by kernel_rfl) (fun x y h=>(Ek x).trans h)
def Bt:List (Nat×Ann):=[(4,⟨[(0,.ref 2000 0),(1,.val tI),(4,.ref 4 0),(5,.val tI)],[(4,BX),(2000,acI)],[.rowC 10250003 84 aQ,.rowC 10250004 133 ax],aS _⟩),
 (100003,⟨[(0,.ref 2000 0),(1,.val tI),(4,.ref 4 0),(5,.val tI)],[(4,BX),(2000,[.val .str,.val .str,.val .str,.val tI,.val tI,.val (.slice fm),.val (.slice ay),.own 84 aQ,.rowR 10250004])],[.rowC 10250004 133 ax],fun _=>0⟩),
 (100010,⟨[(0,.ref 2000 0),(1,.val tI),(4,.ref 4 0),(7,.rpR 4000 19)],[(4,BX),(2000,XY)],[.rowC 4000 84 aQ,.rowC 10250004 133 ax],fun _=>0⟩),
 (100013,⟨[(0,.ref 2000 0),(1,.val tI),(4,.ref 4 0),(7,.rpR 4000 19),(82,.val tI),(83,.val .bool)],[(4,BX),(2000,XY)],[.rowC 4000 84 aQ,.rowC 10250004 133 ax],fun _=>0⟩),
 (100016,⟨[(1,.val tI),(7,.rpR 4000 19)],[(2000,XY)],[.rowC 4000 84 aQ,.rowC 10250004 133 ax],fun _=>0⟩),
 (200004,⟨[(0,.ref 2000 0),(1,.val tI),(4,.ref 4 0),(5,.val tI)],[(4,BX),(2000,acI)],[.rowC 10250003 84 aQ,.rowC 10250004 133 ax],fun _=>0⟩),
 (300004,⟨[(41,.val .bool)],[],[],fun _=>0⟩)]
noncomputable def nc:az:=⟨[.box [.val bp,.val (.slice ay),.row 84 aQ,.row 133 ax],.val tI],[],fun x=>kT x.1 x.2.1⟩
noncomputable def EP:Cx:=⟨Tryz.prog,[(40,ko),(49,lW),(78,nP),(114,tc),(117,td),(128,ld),(130,gF)],[(129,aaM),(100065,.own)]⟩
theorem Oc:∀ x,aM EP Bt none Tryz.f79 nc x=nc.m x:=by intro x;kernel_rfl
theorem QA:au Tryz.prog 79:=an (fn:=Tryz.f79) (by kernel_rfl) rfl (by decide)
theorem QG:aD Tryz.prog 79 nc:=aA (X:=EP) (.abm afp afo (.agq (.cons EZ EW (.cons AD As (.cons KJ KB (.cons LU LC (.cons LV LD (.cons u7 u6 (.cons Ft Fl (.nil _)))))))))) (by kernel_rfl) nc Bt none (by kernel_rfl) (fun x y h=>(Oc x).trans h)
def QT:List (Nat×Ann):=[(3,⟨[(1,.val (.slice ay)),(2,.val tI),(7,.ref 17 0),(19,.val (.slice fm)),(20,.val tI),(21,.val tI)],[(17,S7)],[],aS _⟩),
 (9,⟨[(2,.val tI),(7,.ref 17 0),(53,.val (.slice ay)),(54,.val tI),(55,.val tI)],[(17,S7)],[],aS _⟩),
 (200003,⟨[(1,.val (.slice ay)),(2,.val tI),(7,.ref 17 0)],[(17,S7)],[],fun _=>0⟩),
 (200009,⟨[(7,.ref 17 0)],[(17,S7)],[],fun _=>0⟩)]
noncomputable def sI:az:=⟨[.val bp,.val (.slice ay),.val tI],[.box [.val bp,.val (.slice ay),.row 84 aQ,.row 133 ax]],fun x=>G8 x.1 x.2.1 x.2.2.1⟩
noncomputable def Wj:Cx:=⟨Tryz.prog,[(49,lW),(67,jB),(78,nP),(79,nc)],[]⟩
theorem abt:∀ x,aM Wj QT none Tryz.f34 sI x=sI.m x:=by intro x;kernel_rfl
theorem Ii:au Tryz.prog 34:=an (fn:=Tryz.f34) (by kernel_rfl) rfl (by decide)
theorem Iq:aD Tryz.prog 34 sI:=aA (X:=Wj) (.cons AD As (.cons DN DC (.cons KJ KB (.cons QG QA (.nil _))))) (by kernel_rfl) sI QT none (by kernel_rfl) (fun x y h=>(abt x).trans h)
def Bv:List (Nat×Ann):=[(3,⟨[(3,.own 34 ck),(9,.val (.slice aQ)),(10,.val tI),(11,.val tI)],[],[],aS _⟩),
 (200003,⟨[(3,.own 34 ck)],[],[],fun _=>0⟩)]
noncomputable def kr:az:=⟨[.val (.ptr fq)],[.row 34 ck],fun x=>rV x.1⟩
noncomputable def ES:Cx:=⟨Tryz.prog,[],[]⟩
theorem Oe:∀ x,aM ES Bv none Tryz.f35 kr x=kr.m x:=by intro x;kernel_rfl
theorem EX:au Tryz.prog 35:=an (fn:=Tryz.f35) (by kernel_rfl) rfl (by decide)
theorem E6:aD Tryz.prog 35 kr:=aA (X:=ES) (.nil _) (by kernel_rfl) kr Bv none (by kernel_rfl) (fun x y h=>(Oe x).trans h)
def Ag:List (Nat×Ann):=[(3,⟨[(2,.ref 2 0),(3,.ref 3 0),(4,.ref 4 0),(5,.rowR 18),(20,.val (.slice (.int .u32))),(21,.val tI),(22,.val tI)],[(2,Dj),(3,Dj),(4,S6)],[.rowC 18 192 (.int .u32)],aS _⟩),
 (7,⟨[(2,.ref 2 0),(3,.ref 3 0),(4,.ref 4 0),(5,.rowR 18),(6,.val tI),(7,.val (.int .u32)),(8,.val (.int .u64)),(20,.val (.slice (.int .u32))),(21,.val tI),(22,.val tI),(28,.val (.slice (.int .u32))),(29,.val tI),(30,.val tI)],[(2,Dj),(3,Dj),(4,S6)],[.rowC 18 192 (.int .u32)],aS _⟩),
 (200003,⟨[(2,.ref 2 0),(3,.ref 3 0),(4,.ref 4 0),(5,.rowR 18)],[(2,Dj),(3,Dj),(4,S6)],[.rowC 18 192 (.int .u32)],fun _=>0⟩),
 (200007,⟨[(2,.ref 2 0),(3,.ref 3 0),(4,.ref 4 0),(5,.rowR 18),(6,.val tI),(8,.val (.int .u64)),(20,.val (.slice (.int .u32))),(21,.val tI),(22,.val tI)],[(2,Dj),(3,Dj),(4,S6)],[.rowC 18 192 (.int .u32)],fun _=>0⟩)]
noncomputable def lY:az:=⟨[.val dF,.val dF],[.val dF],fun x=>IM x.1 x.2.1⟩
noncomputable def Dw:Cx:=⟨Tryz.prog,[(137,ja)],[]⟩
theorem Nl:∀ x,aM Dw Ag none Tryz.f86 lY x=lY.m x:=by intro x;kernel_rfl
theorem OA:au Tryz.prog 86:=an (fn:=Tryz.f86) (by kernel_rfl) rfl (by decide)
theorem Pc:aD Tryz.prog 86 lY:=aA (X:=Dw) (.cons tL tH (.nil _)) (by kernel_rfl) lY Ag none (by kernel_rfl) (fun x y h=>(Nl x).trans h)
def Bx:List (Nat×Ann):=[]
noncomputable def ni:az:=⟨[.val dF,.val dF],[.val dF],fun x=>K6 x.1 x.2.1⟩
noncomputable def EU:Cx:=⟨Tryz.prog,[(137,ja),(138,sj),(140,kW),(141,pK)],[]⟩
theorem Og:∀ x,aM EU Bx none Tryz.f92 ni x=ni.m x:=by intro x;kernel_rfl
theorem QC:au Tryz.prog 92:=an (fn:=Tryz.f92) (by kernel_rfl) rfl (by decide)
theorem QI:aD Tryz.prog 92 ni:=aA (X:=EU) (.cons tL tH (.cons VA Vj (.cons GR GA (.cons MX MT (.nil _))))) (by kernel_rfl) ni Bx none (by kernel_rfl) (fun x y h=>(Og x).trans h)
end Go.Proofs.SeatA
