/-
  Each function that the law reaches is as its plain model says, second part. No condition.
-/
import Derived.Test.YtcndcnfjdanbeaaGreatDoorXw
set_option linter.all false
set_option maxRecDepth 100000
namespace Go.Proofs.SeatA
open Go.Dn Go.Md Go.Proofs
def JY:List CK:=[.val .bool,.own 192 (.int .u32)]
def yM:List CK:=[.val .bool,.val (.slice (.int .u32))]
def RH:List CK:=[.val .str,.val .str,.val .str,.val tI,.val tI,.val (.slice jA),.val (.slice aH),.map tI .hnd,.own 133 az,.own 177 bO,.val tI]
def RI:List CK:=[.val .str,.val .str,.val .str,.val tI,.val tI,.val (.slice jA),.val (.slice aH),.mapR 10250003,.rowR 10250004,.rowR 10250005,.val tI]
def BQ:List (Nat×Ann):=[]
noncomputable def lZ:aB:=⟨[.val tI],[.val az],fun x=>kJ x.1⟩
noncomputable def Fu:Cx:=⟨Tryz.prog,[(85,oV),(108,nt)],[]⟩
theorem Ls:∀ x,aT Fu BQ none Tryz.f52 lZ x=lZ.m x:=by intro x;kernel_rfl
theorem zA:ay Tryz.prog 52:=av (fn:=Tryz.f52) (by kernel_rfl) rfl (by decide)
theorem zC:aI Tryz.prog 52 lZ:=aG (X:=Fu) (.cons CR CF (.cons Jw Jn (.nil _))) (by kernel_rfl) lZ BQ none (by kernel_rfl) (fun x y h=>(Ls x).trans h)
def zG:List (Nat×Ann):=[(1,⟨[(1,.ref 1 0),(2,.ref 2 0)],[(1,[.val tI,.val tI]),(2,[.val tI,.val tI])],[],bh _⟩),
 (200001,⟨[(1,.ref 1 0),(2,.ref 2 0)],[(1,[.val tI,.val tI]),(2,[.val tI,.val tI])],[],fun _=>0⟩),
 (300001,⟨[(11,.val .bool)],[],[],fun _=>0⟩)]
noncomputable def oC:aB:=⟨[.val az],[.val az],fun x=>wK x.1⟩
noncomputable def BU:Cx:=⟨Tryz.prog,[],[]⟩
theorem Jd:∀ x,aT BU zG none Tryz.f46 oC x=oC.m x:=by intro x;kernel_rfl
theorem Kr:ay Tryz.prog 46:=av (fn:=Tryz.f46) (by kernel_rfl) rfl (by decide)
theorem KG:aI Tryz.prog 46 oC:=aG (X:=BU) (.nil _) (by kernel_rfl) oC zG none (by kernel_rfl) (fun x y h=>(Jd x).trans h)
def wg:List (Nat×Ann):=[]
noncomputable def jU:aB:=⟨[.val .hnd,.arR an],[.val IZ],fun x=>nh x.1 x.2.1⟩
noncomputable def xM:Cx:=⟨Tryz.prog,[(43,eL),(46,oC),(52,lZ)],[]⟩
theorem Ek:∀ x,aT xM wg none Tryz.f32 jU x=jU.m x:=by intro x;kernel_rfl
theorem FZ:ay Tryz.prog 32:=av (fn:=Tryz.f32) (by kernel_rfl) rfl (by decide)
theorem F8:aI Tryz.prog 32 jU:=aG (X:=xM) (.cons kQ kN (.cons KG Kr (.cons zC zA (.nil _)))) (by kernel_rfl) jU wg none (by kernel_rfl) (fun x y h=>(Ek x).trans h)
def ux:List (Nat×Ann):=[(1,⟨[(0,.ref 2000 0),(1,.val tI),(10,.val (.slice aH)),(11,.val tI),(12,.val tI)],[(2000,RH)],[.ar an],bh _⟩),
 (200001,⟨[],[(2000,RH)],[.ar an],fun _=>0⟩)]
noncomputable def fG:aB:=⟨[.box [.val bE,.val (.slice aH),.map tI .hnd,.row 133 az,.row 177 bO,.val tI],.val tI,.ar an],[],fun x=>gD x.1 x.2.1 x.2.2.1⟩
noncomputable def wu:Cx:=⟨Tryz.prog,[(32,jU),(113,iC)],[]⟩
theorem Cu:∀ x,aT wu ux none Tryz.f58 fG x=fG.m x:=by intro x;kernel_rfl
theorem pG:ay Tryz.prog 58:=av (fn:=Tryz.f58) (by kernel_rfl) rfl (by decide)
theorem pL:aI Tryz.prog 58 fG:=aG (X:=wu) (.cons F8 FZ (.cons CL Cz (.nil _))) (by kernel_rfl) fG ux none (by kernel_rfl) (fun x y h=>(Cu x).trans h)
def Fm:List (Nat×Ann):=[]
noncomputable def rG:aB:=⟨[.val bE,.val (.slice aH),.val tI,.ar an],[.box [.val bE,.val (.slice aH),.map tI .hnd,.row 133 az,.row 177 bO,.val tI],.val tI],fun x=>Bh x.1 x.2.1 x.2.2.1 x.2.2.2.1⟩
noncomputable def IC:Cx:=⟨Tryz.prog,[(55,iQ),(56,jv),(57,fS),(58,fG)],[]⟩
theorem N6:∀ x,aT IC Fm none Tryz.f30 rG x=rG.m x:=by intro x;kernel_rfl
theorem IL:ay Tryz.prog 30:=av (fn:=Tryz.f30) (by kernel_rfl) rfl (by decide)
theorem IP:aI Tryz.prog 30 rG:=aG (X:=IC) (.cons vL vI (.cons s6 sU (.cons qB qx (.cons pL pG (.nil _))))) (by kernel_rfl) rG Fm none (by kernel_rfl) (fun x y h=>(N6 x).trans h)
def BP:List (Nat×Ann):=[]
noncomputable def nU:aB:=⟨[.val bE,.val (.slice aH),.val tI,.ar an],[.val .hnd,.val tI],fun x=>xm x.1 x.2.1 x.2.2.1 x.2.2.2.1⟩
noncomputable def Ft:Cx:=⟨Tryz.prog,[(55,iQ),(56,jv),(57,fS),(58,fG)],[]⟩
theorem Lr:∀ x,aT Ft BP none Tryz.f30 nU x=nU.m x:=by intro x;kernel_rfl
theorem FD:ay Tryz.prog 30:=av (fn:=Tryz.f30) (by kernel_rfl) rfl (by decide)
theorem FF:aI Tryz.prog 30 nU:=aG (X:=Ft) (.cons vL vI (.cons s6 sU (.cons qB qx (.cons pL pG (.nil _))))) (by kernel_rfl) nU BP none (by kernel_rfl) (fun x y h=>(Lr x).trans h)
def qP:List (Nat×Ann):=[(3,⟨[(0,.ref 2000 0),(3,.own 68 .hnd),(11,.rowR 11),(12,.val tI),(13,.val tI)],[(2000,RI)],[.rowC 11 3 tI,.rowC 10250004 133 az,.rowC 10250005 177 bO,.mapC 10250003 tI .hnd],bh _⟩),
 (200003,⟨[(3,.own 68 .hnd)],[(2000,RI)],[.rowC 10250004 133 az,.rowC 10250005 177 bO,.mapC 10250003 tI .hnd],fun _=>0⟩)]
noncomputable def gH:aB:=⟨[.box [.val bE,.val (.slice aH),.map tI .hnd,.row 133 az,.row 177 bO,.val tI]],[.row 68 .hnd],fun x=>lN x.1⟩
noncomputable def sO:Cx:=⟨Tryz.prog,[],[(76,R9),(77,Sa)]⟩
theorem zX:∀ x,aT sO qP none Tryz.f31 gH x=gH.m x:=by intro x;kernel_rfl
theorem AT:ay Tryz.prog 31:=av (fn:=Tryz.f31) (by kernel_rfl) rfl (by decide)
theorem Bc:aI Tryz.prog 31 gH:=aG (X:=sO) (.TV Va U8 (.TV Vb U9 (.nil _))) (by kernel_rfl) gH qP none (by kernel_rfl) (fun x y h=>(zX x).trans h)
end Go.Proofs.SeatA
set_option maxRecDepth 100000
namespace Go.Proofs.SeatA
open Go.Dn Go.Md Go.Proofs
def wT:List (Nat×Ann):=[(3,⟨[(2,.ref 2 0),(3,.ref 3 0),(4,.ref 4 0),(5,.rowR 18),(20,.val (.slice (.int .u32))),(21,.val tI),(22,.val tI)],[(2,yM),(3,yM),(4,JY)],[.rowC 18 192 (.int .u32)],bh _⟩),
 (7,⟨[(2,.ref 2 0),(3,.ref 3 0),(4,.ref 4 0),(5,.rowR 18),(6,.val tI),(7,.val (.int .u32)),(8,.val (.int .u64)),(20,.val (.slice (.int .u32))),(21,.val tI),(22,.val tI),(28,.val (.slice (.int .u32))),(29,.val tI),(30,.val tI)],[(2,yM),(3,yM),(4,JY)],[.rowC 18 192 (.int .u32)],bh _⟩),
 (200003,⟨[(2,.ref 2 0),(3,.ref 3 0),(4,.ref 4 0),(5,.rowR 18)],[(2,yM),(3,yM),(4,JY)],[.rowC 18 192 (.int .u32)],fun _=>0⟩),
 (200007,⟨[(2,.ref 2 0),(3,.ref 3 0),(4,.ref 4 0),(5,.rowR 18),(6,.val tI),(8,.val (.int .u64)),(20,.val (.slice (.int .u32))),(21,.val tI),(22,.val tI)],[(2,yM),(3,yM),(4,JY)],[.rowC 18 192 (.int .u32)],fun _=>0⟩)]
noncomputable def lg:aB:=⟨[.val cZ,.val cZ],[.val cZ],fun x=>Cn x.1 x.2.1⟩
noncomputable def yV:Cx:=⟨Tryz.prog,[(137,iJ)],[]⟩
theorem FX:∀ x,aT yV wT none Tryz.f86 lg x=lg.m x:=by intro x;kernel_rfl
theorem GQ:ay Tryz.prog 86:=av (fn:=Tryz.f86) (by kernel_rfl) rfl (by decide)
theorem Hp:aI Tryz.prog 86 lg:=aG (X:=yV) (.cons qZ qU (.nil _)) (by kernel_rfl) lg wT none (by kernel_rfl) (fun x y h=>(FX x).trans h)
def xH:List (Nat×Ann):=[]
noncomputable def mo:aB:=⟨[.val cZ,.val cZ],[.val cZ],fun x=>Eb x.1 x.2.1⟩
noncomputable def zO:Cx:=⟨Tryz.prog,[(137,iJ),(138,p8),(140,ko),(141,nV)],[]⟩
theorem GC:∀ x,aT zO xH none Tryz.f92 mo x=mo.m x:=by intro x;kernel_rfl
theorem Iu:ay Tryz.prog 92:=av (fn:=Tryz.f92) (by kernel_rfl) rfl (by decide)
theorem Ix:aI Tryz.prog 92 mo:=aG (X:=zO) (.cons qZ qU (.cons LU LF (.cons Bg AW (.cons FG FE (.nil _))))) (by kernel_rfl) mo xH none (by kernel_rfl) (fun x y h=>(GC x).trans h)
end Go.Proofs.SeatA
