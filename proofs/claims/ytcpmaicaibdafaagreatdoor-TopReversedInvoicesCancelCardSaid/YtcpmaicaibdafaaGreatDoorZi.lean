/-
  Each function of the sheet that the laws reach is as its plain model says. No condition.
-/
import Derived.Test.YtcpmaicaibdafaaGreatDoorZz
import Derived.Test.YtcpmaicaibdafaaGreatDoorZf
set_option linter.all false
set_option maxRecDepth 100000
noncomputable section
namespace Go.Proofs.SeatA
open Go.Dn Go.Md Go.Proofs
def Xb:List CK:=[.val .bool,.own 203 (.int .u32)]
def Ey:List CK:=[.val .bool,.val (.slice (.int .u32))]
def abM:List CK:=[.val .str,.val .str,.val tI,.val tI,.val tI,.val .bool,.own 120 cE,.own 122 bU,.own 125 b9]
def abN:List CK:=[.val .str,.val .str,.val tI,.val tI,.val tI,.val .bool,.rowR 40,.rowR 43,.val (.slice b9)]
def abO:List CK:=[.val .str,.val .str,.val tI,.val tI,.val tI,.val .bool,.val (.slice cE),.val (.slice bU),.val (.slice b9)]
def FA:List (Nat×Ann):=[(2,⟨[(6,.val (.slice aH)),(7,.val tI),(8,.val tI)],[],[],bB _⟩),
 (200002,⟨[],[],[],fun _=>0⟩)]
def rT:aK:=⟨[.val (.slice aH)],[.val tI],fun x=>pX x.1⟩
noncomputable def HO:Cx:=⟨tpr,[(114,dW)],[]⟩
theorem GJ:aU HO FA none Tryz.f63 rT:=by intro x;kernel_rfl
theorem H8:aB tpr 63:=ay Tryz.func63 rfl (by decide)
theorem Ib:aR tpr 63 rT:=aL GJ (.cons gV gT (.nil _)) aN Tryz.func63
def RS:List (Nat×Ann):=[(8,⟨[(0,.val (.slice aH)),(2,.ref 2 0),(5,.val tI),(21,.val (.slice aH)),(22,.val tI),(23,.val tI)],[(2,[.val tI,.val tI])],[],bB _⟩),
 (14,⟨[(2,.ref 2 0),(5,.val tI),(8,.ref 8 0),(33,.val (.slice aH)),(34,.val tI),(35,.val tI)],[(2,[.val tI,.val tI]),(8,Ey)],[],bB _⟩),
 (200008,⟨[(0,.val (.slice aH)),(2,.ref 2 0),(5,.val tI)],[(2,[.val tI,.val tI])],[],fun _=>0⟩),
 (200014,⟨[(2,.ref 2 0),(5,.val tI),(8,.ref 8 0)],[(2,[.val tI,.val tI]),(8,Ey)],[],fun _=>0⟩)]
def A9:aK:=⟨[.val (.slice aH)],[.val aH,.val tI],fun x=>zq x.1⟩
noncomputable def V3:Cx:=⟨tpr,[(63,rT),(64,fU),(65,cN),(66,nV),(67,qB)],[]⟩
theorem Ub:aU V3 RS none Tryz.f29 A9:=by intro x;kernel_rfl
theorem Ma:aB tpr 29:=ay Tryz.func29 rfl (by decide)
theorem Me:aR tpr 29 A9:=aL Ub (.cons Ib H8 (.cons iG iF (.cons dR dP (.cons vQ vH (.cons zO zI (.nil _)))))) aN Tryz.func29
def JB:aK:=⟨[],[.val .bool],fun x=>ri ⟩
noncomputable def YX:Cx:=⟨tpr,[(29,A9)],[]⟩
theorem Xn:aU YX [] none Tryz.f25 JB:=by intro x;kernel_rfl
theorem Zb:aB tpr 25:=ay Tryz.func25 rfl (by decide)
theorem Zn:aR tpr 25 JB:=aL Xn (.cons Me Ma (.nil _)) aN Tryz.func25
def nX:aK:=⟨[.val (.slice bU)],[.row 122 bU],fun x=>jj x.1⟩
noncomputable def DG:Cx:=⟨tpr,[],[]⟩
theorem Dl:aU DG [] none Tryz.f55 nX:=by intro x;kernel_rfl
theorem DM:aB tpr 55:=ay Tryz.func55 rfl (by decide)
theorem DR:aR tpr 55 nX:=aL Dl (.nil _) aN Tryz.func55
def qs:aK:=⟨[.val (.slice b9)],[.row 125 b9],fun x=>ov x.1⟩
noncomputable def FH:Cx:=⟨tpr,[],[]⟩
theorem Ff:aU FH [] none Tryz.f97 qs:=by intro x;kernel_rfl
theorem FT:aB tpr 97:=ay Tryz.func97 rfl (by decide)
theorem FY:aR tpr 97 qs:=aL Ff (.nil _) aN Tryz.func97
def Ba:aK:=⟨[.val aH],[.val aH],fun x=>CH x.1⟩
noncomputable def V5:Cx:=⟨tpr,[],[]⟩
theorem Ud:aU V5 [] none Tryz.f57 Ba:=by intro x;kernel_rfl
theorem Mb:aB tpr 57:=ay Tryz.func57 rfl (by decide)
theorem Mf:aR tpr 57 Ba:=aL Ud (.nil _) aN Tryz.func57
def MZ:List (Nat×Ann):=[(3,⟨[(0,.rowR 23824),(7,.rowR 23824),(8,.val tI),(9,.val tI)],[],[.rowC 23824 125 b9],bB _⟩),
 (200003,⟨[(0,.rowR 23824)],[],[.rowC 23824 125 b9],fun _=>0⟩)]
def BT:aK:=⟨[.val (.slice b9)],[.val (.slice b9)],fun x=>pF x.1⟩
noncomputable def QJ:Cx:=⟨tpr,[(57,Ba),(97,qs)],[]⟩
theorem PC:aU QJ MZ none Tryz.f56 BT:=by intro x;kernel_rfl
theorem Re:aB tpr 56:=ay Tryz.func56 rfl (by decide)
theorem Rt:aR tpr 56 BT:=aL PC (.cons Mf Mb (.cons FY FT (.nil _))) aN Tryz.func56
def MX:List (Nat×Ann):=[(14,⟨[(6,.ref 6 0),(9,.ref 9 0),(51,.rowR 43),(52,.val tI),(53,.val tI)],[(6,abM),(9,abN)],[.rowC 40 120 cE,.rowC 43 122 bU],bB _⟩),
 (200014,⟨[(6,.ref 6 0),(9,.ref 9 0)],[(6,abM),(9,abN)],[.rowC 40 120 cE,.rowC 43 122 bU],fun _=>0⟩)]
def BQ:aK:=⟨[.val aV,.val .str,.val tI],[.val aV,.val tI],fun x=>AY x.1 x.2.1 x.2.2.1⟩
noncomputable def QG:Cx:=⟨tpr,[(35,dN),(48,jS),(49,iR),(50,mI),(55,nX),(56,BT),(57,Ba)],[]⟩
theorem Pz:aU QG MX none Tryz.f26 BQ:=by intro x;kernel_rfl
theorem Ra:aB tpr 26:=ay Tryz.func26 rfl (by decide)
theorem Rq:aR tpr 26 BQ:=aL Pz (.cons fe eY (.cons mX mS (.cons mw mo (.cons yC yt (.cons DR DM (.cons Rt Re (.cons Mf Mb (.nil _)))))))) aN Tryz.func26
def E8:List (Nat×Ann):=[(4,⟨[(0,.val (.slice wk)),(1,.val (.slice wk)),(12,.val tI),(13,.val tI)],[],[],bB _⟩),
 (200004,⟨[],[],[],fun _=>0⟩)]
def qZ:aK:=⟨[.val (.slice wk),.val (.slice wk)],[.val .bool],fun x=>pn x.1 x.2.1⟩
noncomputable def GF:Cx:=⟨tpr,[],[]⟩
theorem FN:aU GF E8 none Tryz.f20 qZ:=by intro x;kernel_rfl
theorem GX:aB tpr 20:=ay Tryz.func20 rfl (by decide)
theorem Hj:aR tpr 20 qZ:=aL FN (.nil _) aN Tryz.func20
def BV:aK:=⟨[.val aq],[.val .bool],fun x=>iw x.1⟩
noncomputable def QO:Cx:=⟨tpr,[],[]⟩
theorem PI:aU QO [] none Tryz.f261 BV:=by intro x;kernel_rfl
theorem Rg:aB tpr 261:=ay Tryz.func261 rfl (by decide)
theorem Rv:aR tpr 261 BV:=aL PI (.nil _) aN Tryz.func261
def uz:aK:=⟨[.val aq,.val aq,.val tI],[.val aq],fun x=>uC x.1 x.2.1 x.2.2.1⟩
noncomputable def Pn:Cx:=⟨tpr,[(41,ir),(64,fU),(65,cN),(81,oI),(82,tg),(127,mJ),(261,BV)],[]⟩
theorem Ny:aU Pn [] none Tryz.f229 uz:=by intro x;kernel_rfl
theorem Fu:aB tpr 229:=ay Tryz.func229 rfl (by decide)
theorem Fv:aR tpr 229 uz:=aL Ny (.cons ku kr (.cons iG iF (.cons dR dP (.cons yF yx (.cons CZ CS (.cons vR vI (.cons Rv Rg (.nil _)))))))) aN Tryz.func229
def mE:aK:=⟨[.val aq],[.val .bool],fun x=>kI x.1⟩
noncomputable def Xe:Cx:=⟨tpr,[(121,nY)],[]⟩
theorem Wc:aU Xe [] none Tryz.f112 mE:=by intro x;kernel_rfl
theorem qE:aB tpr 112:=ay Tryz.func112 rfl (by decide)
theorem qM:aR tpr 112 mE:=aL Wc (.cons vS vJ (.nil _)) aN Tryz.func112
def Fk:aK:=⟨[.val aV,.val bU],[.val aq,.val .bool],fun x=>FC x.1 x.2.1⟩
noncomputable def V4:Cx:=⟨tpr,[(64,fU),(112,mE),(119,gO),(120,u9),(229,uz)],[]⟩
theorem Uc:aU V4 [] none Tryz.f225 Fk:=by intro x;kernel_rfl
theorem Wk:aB tpr 225:=ay Tryz.func225 rfl (by decide)
theorem Ws:aR tpr 225 Fk:=aL Uc (.cons iG iF (.cons qM qE (.cons jD jy (.cons DS DN (.cons Fv Fu (.nil _)))))) aN Tryz.func225
def yS:aK:=⟨[.val aV,.val aq,.val aH],[.val aq],fun x=>sB x.1 x.2.1 x.2.2.1⟩
noncomputable def Xh:Cx:=⟨tpr,[(64,fU),(119,gO),(120,u9),(229,uz)],[]⟩
theorem Wg:aU Xh [] none Tryz.f179 yS:=by intro x;kernel_rfl
theorem GS:aB tpr 179:=ay Tryz.func179 rfl (by decide)
theorem Hf:aR tpr 179 yS:=aL Wg (.cons iG iF (.cons jD jy (.cons DS DN (.cons Fv Fu (.nil _))))) aN Tryz.func179
def VT:List (Nat×Ann):=[(4,⟨[(2,.ref 2 0),(4,.ref 4 0),(6,.ref 6 0),(7,.val .bool),(8,.ref 8 0),(20,.val (.slice b9)),(21,.val tI),(22,.val tI)],[(2,abO),(4,Xb),(6,Ey),(8,Ey)],[],bB _⟩),
 (100008,⟨[(2,.ref 2 0),(4,.ref 4 0),(6,.ref 6 0),(7,.val .bool),(8,.ref 8 0),(11,.ref 11 0),(20,.val (.slice b9)),(21,.val tI),(22,.val tI)],[(2,abO),(4,Xb),(6,Ey),(8,Ey),(11,Ey)],[],fun _=>0⟩),
 (200004,⟨[(4,.ref 4 0),(7,.val .bool),(8,.ref 8 0)],[(4,Xb),(8,Ey)],[],fun _=>0⟩)]
def Jx:aK:=⟨[.val aV,.val bU],[.val aq,.val .bool],fun x=>KN x.1 x.2.1⟩
noncomputable def YU:Cx:=⟨tpr,[(65,cN),(66,nV),(112,mE),(179,yS),(225,Fk)],[]⟩
theorem Xk:aU YU VT none Tryz.f175 Jx:=by intro x;kernel_rfl
theorem Y8:aB tpr 175:=ay Tryz.func175 rfl (by decide)
theorem Zk:aR tpr 175 Jx:=aL Xk (.cons dR dP (.cons vQ vH (.cons qM qE (.cons Hf GS (.cons Ws Wk (.nil _)))))) aN Tryz.func175
def rV:aK:=⟨[.val aq],[.val .bool],fun x=>vB x.1⟩
noncomputable def HQ:Cx:=⟨tpr,[(112,mE)],[]⟩
theorem GL:aU HQ [] none Tryz.f177 rV:=by intro x;kernel_rfl
theorem Ia:aB tpr 177:=ay Tryz.func177 rfl (by decide)
theorem Ie:aR tpr 177 rV:=aL GL (.cons qM qE (.nil _)) aN Tryz.func177
def u5:aK:=⟨[.val aq],[.val .bool],fun x=>yj x.1⟩
noncomputable def JY:Cx:=⟨tpr,[(112,mE)],[]⟩
theorem I2:aU JY [] none Tryz.f182 u5:=by intro x;kernel_rfl
theorem Kf:aB tpr 182:=ay Tryz.func182 rfl (by decide)
theorem Kn:aR tpr 182 u5:=aL I2 (.cons qM qE (.nil _)) aN Tryz.func182
def xI:aK:=⟨[.val aq],[.val .bool],fun x=>Bl x.1⟩
noncomputable def Mt:Cx:=⟨tpr,[(112,mE)],[]⟩
theorem K3:aU Mt [] none Tryz.f183 xI:=by intro x;kernel_rfl
theorem ML:aB tpr 183:=ay Tryz.func183 rfl (by decide)
theorem MO:aR tpr 183 xI:=aL K3 (.cons qM qE (.nil _)) aN Tryz.func183
def tQ:aK:=⟨[.val aq],[.val .bool],fun x=>xu x.1⟩
noncomputable def IT:Cx:=⟨tpr,[(112,mE)],[]⟩
theorem HW:aU IT [] none Tryz.f111 tQ:=by intro x;kernel_rfl
theorem Jb:aB tpr 111:=ay Tryz.func111 rfl (by decide)
theorem Jm:aR tpr 111 tQ:=aL HW (.cons qM qE (.nil _)) aN Tryz.func111
def Cm:List (Nat×Ann):=[(2,⟨[(0,.val (.slice aq)),(1,.val (.clo 177 .unit)),(7,.val tI),(8,.val tI)],[],[],bB _⟩),
 (200002,⟨[],[],[],fun _=>0⟩)]
def nh:aK:=⟨[.val (.slice aq),.val (.clo 177 .unit)],[.val tI],fun x=>pI x.1 x.2.1⟩
noncomputable def Dk:Cx:=⟨tpr,[(177,rV)],[]⟩
theorem CM:aU Dk Cm none Tryz.f184 nh:=by intro x;kernel_rfl
theorem Dp:aB tpr 184:=ay Tryz.func184 rfl (by decide)
theorem Dr:aR tpr 184 nh:=aL CM (.cons Ie Ia (.nil _)) aN Tryz.func184
def AA:List (Nat×Ann):=[(2,⟨[(0,.val (.slice aq)),(1,.val (.clo 182 .unit)),(7,.val tI),(8,.val tI)],[],[],bB _⟩),
 (200002,⟨[],[],[],fun _=>0⟩)]
def lX:aK:=⟨[.val (.slice aq),.val (.clo 182 .unit)],[.val tI],fun x=>nS x.1 x.2.1⟩
noncomputable def Co:Cx:=⟨tpr,[(182,u5)],[]⟩
theorem Bt:aU Co AA none Tryz.f184 lX:=by intro x;kernel_rfl
theorem Cs:aB tpr 184:=ay Tryz.func184 rfl (by decide)
theorem Cw:aR tpr 184 lX:=aL Bt (.cons Kn Kf (.nil _)) aN Tryz.func184
def AB:List (Nat×Ann):=[(2,⟨[(0,.val (.slice aq)),(1,.val (.clo 183 .unit)),(7,.val tI),(8,.val tI)],[],[],bB _⟩),
 (200002,⟨[],[],[],fun _=>0⟩)]
def lY:aK:=⟨[.val (.slice aq),.val (.clo 183 .unit)],[.val tI],fun x=>nT x.1 x.2.1⟩
noncomputable def Cp:Cx:=⟨tpr,[(183,xI)],[]⟩
theorem Bu:aU Cp AB none Tryz.f184 lY:=by intro x;kernel_rfl
theorem Ct:aB tpr 184:=ay Tryz.func184 rfl (by decide)
theorem Cy:aR tpr 184 lY:=aL Bu (.cons MO ML (.nil _)) aN Tryz.func184
def AD:List (Nat×Ann):=[(2,⟨[(0,.val (.slice aq)),(1,.val (.clo 111 .unit)),(7,.val tI),(8,.val tI)],[],[],bB _⟩),
 (200002,⟨[],[],[],fun _=>0⟩)]
def lZ:aK:=⟨[.val (.slice aq),.val (.clo 111 .unit)],[.val tI],fun x=>nU x.1 x.2.1⟩
noncomputable def Cq:Cx:=⟨tpr,[(111,tQ)],[]⟩
theorem Bv:aU Cq AD none Tryz.f184 lZ:=by intro x;kernel_rfl
theorem Cu:aB tpr 184:=ay Tryz.func184 rfl (by decide)
theorem Cz:aR tpr 184 lZ:=aL Bv (.cons Jm Jb (.nil _)) aN Tryz.func184
def lG:aK:=⟨[.val (.slice aq),.val (.clo 177 .unit)],[.val .bool],fun x=>jr x.1 x.2.1⟩
noncomputable def Bn:Cx:=⟨tpr,[(184,nh)],[]⟩
theorem AH:aU Bn [] none Tryz.f110 lG:=by intro x;kernel_rfl
theorem BC:aB tpr 110:=ay Tryz.func110 rfl (by decide)
theorem BI:aR tpr 110 lG:=aL AH (.cons Dr Dp (.nil _)) aN Tryz.func110
def kC:aK:=⟨[.val (.slice aq),.val (.clo 182 .unit)],[.val .bool],fun x=>bZ x.1 x.2.1⟩
noncomputable def Ac:Cx:=⟨tpr,[(184,lX)],[]⟩
theorem zC:aU Ac [] none Tryz.f110 kC:=by intro x;kernel_rfl
theorem Ah:aB tpr 110:=ay Tryz.func110 rfl (by decide)
theorem An:aR tpr 110 kC:=aL zC (.cons Cw Cs (.nil _)) aN Tryz.func110
def kD:aK:=⟨[.val (.slice aq),.val (.clo 183 .unit)],[.val .bool],fun x=>iX x.1 x.2.1⟩
noncomputable def Ad:Cx:=⟨tpr,[(184,lY)],[]⟩
theorem zD:aU Ad [] none Tryz.f110 kD:=by intro x;kernel_rfl
theorem Ai:aB tpr 110:=ay Tryz.func110 rfl (by decide)
theorem Ao:aR tpr 110 kD:=aL zD (.cons Cy Ct (.nil _)) aN Tryz.func110
end Go.Proofs.SeatA
end
