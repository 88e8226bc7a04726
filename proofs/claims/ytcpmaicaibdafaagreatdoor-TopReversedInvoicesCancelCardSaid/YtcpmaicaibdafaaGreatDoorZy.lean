/-
  Each function that the laws reach is as its plain model says, a further part. No condition.
-/
import Derived.Test.YtcpmaicaibdafaaGreatDoorZw
set_option linter.all false
set_option maxRecDepth 100000
noncomputable section
namespace Go.Proofs.SeatA
open Go.Dn Go.Md Go.Proofs
def JU:List CK:=[.val .bool,.own 203 (.int .u32)]
def uK:List CK:=[.val .bool,.val (.slice (.int .u32))]
def abT:List CK:=[.val .str,.val .str,.val .str,.val tI,.val tI,.val (.slice mK),.val (.slice bp),.map tI .hnd,.own 244 aH,.own 258 eG,.val tI]
def abU:List CK:=[.val .str,.val .str,.val .str,.val tI,.val tI,.val (.slice mK),.val (.slice bp),.mapR 10250003,.rowR 10250004,.rowR 10250005,.val tI]
def abV:List CK:=[.val .str,.val .str,.val .str,.val tI,.val tI,.val (.slice mK),.val (.slice bp),.val tI,.val tI,.val (.slice aV),.map tI (.slice cc),.map tI aq,.own 37 lR]
def JV:List CK:=[.val tI,.val tI]
def qB:aK:=⟨[.val aq,.val tI],[.val aH,.val tI],fun x=>oa x.1 x.2.1⟩
noncomputable def TY:Cx:=⟨tpr,[(121,nY)],[]⟩
theorem Sl:aU TY [] none Tryz.f67 qB:=by intro x;kernel_rfl
theorem zI:aB tpr 67:=ay Tryz.func67 rfl (by decide)
theorem zO:aR tpr 67 qB:=aL Sl (.cons vS vJ (.nil _)) aN Tryz.func67
def MT:List (Nat×Ann):=[(2,⟨[(1,.val tI),(2,.ref 2 0),(4,.ref 4 0),(6,.ref 6 0)],[(2,uK),(4,JV),(6,uK)],[],bB _⟩),
 (200002,⟨[(1,.val tI),(2,.ref 2 0),(4,.ref 4 0)],[(2,uK),(4,JV)],[],fun _=>0⟩)]
def qV:aK:=⟨[.val aq,.val tI],[.val aH,.val tI],fun x=>pE x.1 x.2.1⟩
noncomputable def QD:Cx:=⟨tpr,[(41,ir),(64,fU),(67,qB),(81,oI),(82,tg)],[]⟩
theorem Pw:aU QD MT none Tryz.f42 qV:=by intro x;kernel_rfl
theorem Bz:aB tpr 42:=ay Tryz.func42 rfl (by decide)
theorem BG:aR tpr 42 qV:=aL Pw (.cons ku kr (.cons iG iF (.cons zO zI (.cons yF yx (.cons CZ CS (.nil _)))))) aN Tryz.func42
def Fo:aK:=⟨[.val tI],[.val aH],fun x=>sS x.1⟩
noncomputable def V9:Cx:=⟨tpr,[(42,qV),(64,fU)],[]⟩
theorem Uh:aU V9 [] none Tryz.f103 Fo:=by intro x;kernel_rfl
theorem Wn:aB tpr 103:=ay Tryz.func103 rfl (by decide)
theorem Wv:aR tpr 103 Fo:=aL Uh (.cons BG Bz (.cons iG iF (.nil _))) aN Tryz.func103
def Pj:List (Nat×Ann):=[(1,⟨[(1,.ref 1 0),(2,.ref 2 0)],[(1,JV),(2,JV)],[],bB _⟩),
 (200001,⟨[(1,.ref 1 0),(2,.ref 2 0)],[(1,JV),(2,JV)],[],fun _=>0⟩),
 (300001,⟨[(11,.val .bool)],[],[],fun _=>0⟩)]
def Da:aK:=⟨[.val aH],[.val aH],fun x=>CF x.1⟩
noncomputable def Sc:Cx:=⟨tpr,[],[]⟩
theorem QW:aU Sc Pj none Tryz.f104 Da:=by intro x;kernel_rfl
theorem SN:aB tpr 104:=ay Tryz.func104 rfl (by decide)
theorem Td:aR tpr 104 Da:=aL QW (.nil _) aN Tryz.func104
def rP:aK:=⟨[.val .hnd,.arR cq],[.val cc],fun x=>nP x.1 x.2.1⟩
noncomputable def Mx:Cx:=⟨tpr,[(103,Fo),(104,Da),(105,td)],[]⟩
theorem K7:aU Mx [] none Tryz.f60 rP:=by intro x;kernel_rfl
theorem Dv:aB tpr 60:=ay Tryz.func60 rfl (by decide)
theorem Dy:aR tpr 60 rP:=aL K7 (.cons Wv Wn (.cons Td SN (.cons EP EF (.nil _)))) aN Tryz.func60
def HN:List (Nat×Ann):=[(1,⟨[(0,.ref 2000 0),(1,.val tI),(10,.val (.slice bp)),(11,.val tI),(12,.val tI)],[(2000,abT)],[.ar cq],bB _⟩),
 (200001,⟨[],[(2000,abT)],[.ar cq],fun _=>0⟩)]
def pq:aK:=⟨[.box [.val bT,.val (.slice bp),.map tI .hnd,.row 244 aH,.row 258 eG,.val tI],.val tI,.ar cq],[],fun x=>lN x.1 x.2.1 x.2.2.1⟩
noncomputable def J3:Cx:=⟨tpr,[(60,rP),(171,tT)],[]⟩
theorem I5:aU J3 HN none Tryz.f100 pq:=by intro x;kernel_rfl
theorem Ca:aB tpr 100:=ay Tryz.func100 rfl (by decide)
theorem Cd:aR tpr 100 pq:=aL I5 (.cons Dy Dv (.cons Jn Jc (.nil _))) aN Tryz.func100
def Jz:aK:=⟨[.val bT,.val (.slice bp),.val tI,.ar cq],[.box [.val bT,.val (.slice bp),.map tI .hnd,.row 244 aH,.row 258 eG,.val tI],.val tI],fun x=>LC x.1 x.2.1 x.2.2.1 x.2.2.2.1⟩
noncomputable def YW:Cx:=⟨tpr,[(37,mH),(98,wg),(99,qq),(100,pq)],[]⟩
theorem Xm:aU YW [] none Tryz.f58 Jz:=by intro x;kernel_rfl
theorem Za:aB tpr 58:=ay Tryz.func58 rfl (by decide)
theorem Zm:aR tpr 58 Jz:=aL Xm (.cons qN qF (.cons Hg GU (.cons CY CR (.cons Cd Ca (.nil _))))) aN Tryz.func58
def Fm:aK:=⟨[.val bT,.val (.slice bp),.val tI,.ar cq],[.val .hnd,.val tI],fun x=>F3 x.1 x.2.1 x.2.2.1 x.2.2.2.1⟩
noncomputable def V8:Cx:=⟨tpr,[(37,mH),(98,wg),(99,qq),(100,pq)],[]⟩
theorem Ug:aU V8 [] none Tryz.f58 Fm:=by intro x;kernel_rfl
theorem Wm:aB tpr 58:=ay Tryz.func58 rfl (by decide)
theorem Wu:aR tpr 58 Fm:=aL Ug (.cons qN qF (.cons Hg GU (.cons CY CR (.cons Cd Ca (.nil _))))) aN Tryz.func58
def E7:List (Nat×Ann):=[(3,⟨[(0,.ref 2000 0),(3,.own 134 .hnd),(11,.rowR 11),(12,.val tI),(13,.val tI)],[(2000,abU)],[.rowC 11 3 tI,.rowC 10250004 244 aH,.rowC 10250005 258 eG,.mapC 10250003 tI .hnd],bB _⟩),
 (200003,⟨[(3,.own 134 .hnd)],[(2000,abU)],[.rowC 10250004 244 aH,.rowC 10250005 258 eG,.mapC 10250003 tI .hnd],fun _=>0⟩)]
def qY:aK:=⟨[.box [.val bT,.val (.slice bp),.map tI .hnd,.row 244 aH,.row 258 eG,.val tI]],[.row 134 .hnd],fun x=>o9 x.1⟩
noncomputable def GC:Cx:=⟨tpr,[],[(101,ZU),(102,ZV)]⟩
theorem FL:aU GC E7 none Tryz.f59 qY:=by intro x;kernel_rfl
theorem GW:aB tpr 59:=ay Tryz.func59 rfl (by decide)
theorem Hi:aR tpr 59 qY:=aL FL (.aaH aeU aeR (.aaH aeV aeS (.nil _))) aN Tryz.func59
def M3:List (Nat×Ann):=[(6,⟨[(10,.own 105 cc),(24,.rowR 60688),(25,.val tI),(26,.val tI)],[],[.rowC 60688 134 .hnd,.ar cq],bB _⟩),
 (200006,⟨[(10,.own 105 cc)],[],[.ar cq],fun _=>0⟩)]
def qW:aK:=⟨[.val bT,.val (.slice bp),.val tI],[.val (.slice cc),.val tI],fun x=>sd x.1 x.2.1 x.2.2.1⟩
noncomputable def QK:Cx:=⟨tpr,[(58,Fm),(58,Jz),(59,qY),(60,rP)],[]⟩
theorem PD:aU QK M3 (some cq) Tryz.f27 qW:=by intro x;kernel_rfl
theorem BA:aB tpr 27:=ay Tryz.func27 rfl (by decide)
theorem BH:aR tpr 27 qW:=aL PD (.cons Wu Wm (.cons Zm Za (.cons Hi GW (.cons Dy Dv (.nil _))))) aN Tryz.func27
def mG:aK:=⟨[.box [.val bT,.val (.slice bp),.val aH,.val (.slice aV),.map tI (.slice cc),.map tI aq,.row 37 lR],.val tI],[.val (.slice cc)],fun x=>lH x.1 x.2.1⟩
noncomputable def GA:Cx:=⟨tpr,[(27,qW)],[]⟩
theorem FJ:aU GA [] none Tryz.f38 mG:=by intro x;kernel_rfl
theorem yq:aB tpr 38:=ay Tryz.func38 rfl (by decide)
theorem yB:aR tpr 38 mG:=aL FJ (.cons BH BA (.nil _)) aN Tryz.func38
def tO:aK:=⟨[.val cc,.val (.ptr bU)],[.val .bool],fun x=>xm x.1 x.2.1⟩
noncomputable def IQ:Cx:=⟨tpr,[],[]⟩
theorem HU:aU IQ [] none Tryz.f126 tO:=by intro x;kernel_rfl
theorem I9:aB tpr 126:=ay Tryz.func126 rfl (by decide)
theorem Jk:aR tpr 126 tO:=aL HU (.nil _) aN Tryz.func126
def Cl:List (Nat×Ann):=[(2,⟨[(0,.val (.slice cc)),(1,.val (.clo 126 (.ptr bU))),(7,.val tI),(8,.val tI)],[],[],bB _⟩),
 (200002,⟨[],[],[],fun _=>0⟩)]
def ng:aK:=⟨[.val (.slice cc),.val (.clo 126 (.ptr bU))],[.val tI],fun x=>kX x.1 x.2.1⟩
noncomputable def Dj:Cx:=⟨tpr,[(126,tO)],[]⟩
theorem CL:aU Dj Cl none Tryz.f125 ng:=by intro x;kernel_rfl
theorem Dm:aB tpr 125:=ay Tryz.func125 rfl (by decide)
theorem Dq:aR tpr 125 ng:=aL CL (.cons Jk I9 (.nil _)) aN Tryz.func125
def KK:List (Nat×Ann):=[(3,⟨[(2,.ref 2 0),(3,.ref 3 0),(4,.ref 4 0),(5,.rowR 18),(20,.val (.slice (.int .u32))),(21,.val tI),(22,.val tI)],[(2,uK),(3,uK),(4,JU)],[.rowC 18 203 (.int .u32)],bB _⟩),
 (7,⟨[(2,.ref 2 0),(3,.ref 3 0),(4,.ref 4 0),(5,.rowR 18),(6,.val tI),(7,.val (.int .u32)),(8,.val (.int .u64)),(20,.val (.slice (.int .u32))),(21,.val tI),(22,.val tI),(28,.val (.slice (.int .u32))),(29,.val tI),(30,.val tI)],[(2,uK),(3,uK),(4,JU)],[.rowC 18 203 (.int .u32)],bB _⟩),
 (200003,⟨[(2,.ref 2 0),(3,.ref 3 0),(4,.ref 4 0),(5,.rowR 18)],[(2,uK),(3,uK),(4,JU)],[.rowC 18 203 (.int .u32)],fun _=>0⟩),
 (200007,⟨[(2,.ref 2 0),(3,.ref 3 0),(4,.ref 4 0),(5,.rowR 18),(6,.val tI),(8,.val (.int .u64)),(20,.val (.slice (.int .u32))),(21,.val tI),(22,.val tI)],[(2,uK),(3,uK),(4,JU)],[.rowC 18 203 (.int .u32)],fun _=>0⟩)]
def gO:aK:=⟨[.val aq,.val aq],[.val aq],fun x=>dx x.1 x.2.1⟩
noncomputable def Nv:Cx:=⟨tpr,[(115,mY)],[]⟩
theorem MI:aU Nv KK none Tryz.f119 gO:=by intro x;kernel_rfl
theorem jy:aB tpr 119:=ay Tryz.func119 rfl (by decide)
theorem jD:aR tpr 119 gO:=aL MI (.cons rZ rX (.nil _)) aN Tryz.func119
def Qx:List (Nat×Ann):=[(3,⟨[(2,.ref 2 0),(3,.ref 3 0),(5,.val tI),(6,.val tI)],[(2,JU),(3,uK)],[],bB _⟩),
 (200003,⟨[(2,.ref 2 0),(3,.ref 3 0)],[(2,JU),(3,uK)],[],fun _=>0⟩)]
def u9:aK:=⟨[.val tI],[.val aq],fun x=>qy x.1⟩
noncomputable def T9:Cx:=⟨tpr,[(64,fU),(119,gO)],[]⟩
theorem Sv:aU T9 Qx none Tryz.f120 u9:=by intro x;kernel_rfl
theorem DN:aB tpr 120:=ay Tryz.func120 rfl (by decide)
theorem DS:aR tpr 120 u9:=aL Sv (.cons iG iF (.cons jD jy (.nil _))) aN Tryz.func120
def nV:aK:=⟨[.val aH,.val tI],[.val aq],fun x=>mQ x.1 x.2.1⟩
noncomputable def QE:Cx:=⟨tpr,[(64,fU),(119,gO),(120,u9)],[]⟩
theorem Px:aU QE [] none Tryz.f66 nV:=by intro x;kernel_rfl
theorem vH:aB tpr 66:=ay Tryz.func66 rfl (by decide)
theorem vQ:aR tpr 66 nV:=aL Px (.cons iG iF (.cons jD jy (.cons DS DN (.nil _)))) aN Tryz.func66
def s8:aK:=⟨[.val aH],[.val aq],fun x=>l8 x.1⟩
noncomputable def Sd:Cx:=⟨tpr,[(66,nV)],[]⟩
theorem QX:aU Sd [] none Tryz.f73 s8:=by intro x;kernel_rfl
theorem CP:aB tpr 73:=ay Tryz.func73 rfl (by decide)
theorem CW:aR tpr 73 s8:=aL QX (.cons vQ vH (.nil _)) aN Tryz.func73
def HA:aK:=⟨[.val aq,.val tI],[.val aq],fun x=>Ev x.1 x.2.1⟩
noncomputable def Xg:Cx:=⟨tpr,[(64,fU),(119,gO)],[]⟩
theorem We:aU Xg [] none Tryz.f128 HA:=by intro x;kernel_rfl
theorem XD:aB tpr 128:=ay Tryz.func128 rfl (by decide)
theorem X2:aR tpr 128 HA:=aL We (.cons iG iF (.cons jD jy (.nil _))) aN Tryz.func128
def cN:aK:=⟨[.val aq,.val aq],[.val aq],fun x=>bf x.1 x.2.1⟩
noncomputable def Pu:Cx:=⟨tpr,[(115,mY),(116,D3),(117,wh),(118,Bb)],[]⟩
theorem NF:aU Pu [] none Tryz.f65 cN:=by intro x;kernel_rfl
theorem dP:aB tpr 65:=ay Tryz.func65 rfl (by decide)
theorem dR:aR tpr 65 cN:=aL NF (.cons rZ rX (.cons UE Up (.cons Ho GZ (.cons Mg Mc (.nil _))))) aN Tryz.func65
def pU:aK:=⟨[.val aq,.val aq],[.val aq],fun x=>qC x.1 x.2.1⟩
noncomputable def Pt:Cx:=⟨tpr,[(65,cN),(81,oI)],[]⟩
theorem ND:aU Pt [] none Tryz.f40 pU:=by intro x;kernel_rfl
theorem Ak:aB tpr 40:=ay Tryz.func40 rfl (by decide)
theorem Aq:aR tpr 40 pU:=aL ND (.cons dR dP (.cons yF yx (.nil _))) aN Tryz.func40
def mJ:aK:=⟨[.val aq,.val aq],[.val tI],fun x=>kH x.1 x.2.1⟩
noncomputable def KW:Cx:=⟨tpr,[(40,pU),(41,ir)],[]⟩
theorem J9:aU KW [] none Tryz.f127 mJ:=by intro x;kernel_rfl
theorem vI:aB tpr 127:=ay Tryz.func127 rfl (by decide)
theorem vR:aR tpr 127 mJ:=aL J9 (.cons Aq Ak (.cons ku kr (.nil _))) aN Tryz.func127
def yR:aK:=⟨[.val cc],[.val aq],fun x=>B5 x.1⟩
noncomputable def Xf:Cx:=⟨tpr,[(40,pU),(73,s8)],[]⟩
theorem Wd:aU Xf [] none Tryz.f39 yR:=by intro x;kernel_rfl
theorem GR:aB tpr 39:=ay Tryz.func39 rfl (by decide)
theorem He:aR tpr 39 yR:=aL Wd (.cons Aq Ak (.cons CW CP (.nil _))) aN Tryz.func39
def vY:aK:=⟨[.box [.val bT,.val (.slice bp),.val aH,.val (.slice aV),.map tI (.slice cc),.map tI aq,.row 37 lR],.val tI,.val bU],[.val tI],fun x=>ur x.1 x.2.1 x.2.2.1⟩
noncomputable def KS:Cx:=⟨tpr,[(38,mG),(39,yR),(41,ir),(64,fU),(65,cN),(73,s8),(119,gO),(125,ng),(127,mJ),(128,HA)],[]⟩
theorem J5:aU KS [] none Tryz.f72 vY:=by intro x;kernel_rfl
theorem Lg:aB tpr 72:=ay Tryz.func72 rfl (by decide)
theorem Lx:aR tpr 72 vY:=aL J5 (.cons yB yq (.cons He GR (.cons ku kr (.cons iG iF (.cons dR dP (.cons CW CP (.cons jD jy (.cons Dq Dm (.cons vR vI (.cons X2 XD (.nil _))))))))))) aN Tryz.func72
def FB:List (Nat×Ann):=[(8,⟨[(2,.ref 2 0),(4,.ref 4 0),(5,.fn 69 [2,3]),(40,.val (.slice bU)),(41,.val tI),(42,.val tI)],[(2,[.ref 2000 0]),(3,[.val tI]),(4,[.val .str,.val .str,.val tI,.val tI,.val tI,.val .bool,.val (.slice cE),.val (.slice bU),.val (.slice b9)]),(2000,abV)],[],bB _⟩),
 (200008,⟨[],[(2000,abV)],[],fun _=>0⟩)]
def rU:aK:=⟨[.box [.val bT,.val (.slice bp),.val aH,.val (.slice aV),.map tI (.slice cc),.map tI aq,.row 37 lR],.val tI],[],fun x=>me x.1 x.2.1⟩
noncomputable def HP:Cx:=⟨tpr,[(65,cN),(70,kz),(72,vY),(73,s8)],[(69,acr)]⟩
theorem GK:aU HP FB none Tryz.f31 rU:=by intro x;kernel_rfl
theorem H9:aB tpr 31:=ay Tryz.func31 rfl (by decide)
theorem Ic:aR tpr 31 rU:=aL GK (.aaH afA afz (.cons dR dP (.cons Am Ag (.cons Lx Lg (.cons CW CP (.nil _)))))) aN Tryz.func31
end Go.Proofs.SeatA
end
