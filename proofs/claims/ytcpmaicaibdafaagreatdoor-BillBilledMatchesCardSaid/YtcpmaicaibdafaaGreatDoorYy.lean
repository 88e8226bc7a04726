/-
  Each function that the laws reach is as its plain model says, a further part. No condition.
-/
import Derived.Test.YtcpmaicaibdafaaGreatDoorYw
set_option linter.all false
set_option maxRecDepth 100000
noncomputable section
namespace Go.Proofs.SeatA
open Go.Dn Go.Md Go.Proofs
def Ek:List CK:=[.val .bool,.own 203 (.int .u32)]
def qb:List CK:=[.val .bool,.val (.slice (.int .u32))]
def TV:List CK:=[.val .str,.val .str,.val .str,.val tI,.val tI,.val (.slice jw),.val (.slice aO),.map tI .hnd,.own 244 aA,.own 258 cO,.val tI]
def TW:List CK:=[.val .str,.val .str,.val .str,.val tI,.val tI,.val (.slice jw),.val (.slice aO),.mapR 10250003,.rowR 10250004,.rowR 10250005,.val tI]
def LV:List CK:=[.val .str,.val .str,.val .str,.val tI,.val tI,.val (.slice jw),.val (.slice aO),.val tI,.val tI,.val (.slice aU),.map tI (.slice bH),.map tI aS,.own 37 gH]
def LW:List CK:=[.val tI,.val tI,.val tI,.val (.slice .str)]
def El:List CK:=[.val tI,.val tI]
def zh:az:=⟨[.val aS,.val tI],[.val aA,.val tI],fun x=>vX x.1 x.2.1⟩
noncomputable def Nu:Cx:=⟨tpr,[(121,xo)],[]⟩
theorem L9:aN Nu [] none Tryz.f67 zh:=by intro x;kernel_rfl
theorem NQ:aq tpr 67:=an Tryz.func67 rfl (by decide)
theorem N7:aG tpr 67 zh:=aB L9 (.cons Ln K9 (.nil _)) aC Tryz.func67
def GZ:List (Nat×Ann):=[(2,⟨[(1,.val tI),(2,.ref 2 0),(4,.ref 4 0),(6,.ref 6 0)],[(2,qb),(4,El),(6,qb)],[],bg _⟩),
 (200002,⟨[(1,.val tI),(2,.ref 2 0),(4,.ref 4 0)],[(2,qb),(4,El)],[],fun _=>0⟩)]
def kz:az:=⟨[.val aS,.val tI],[.val aA,.val tI],fun x=>jC x.1 x.2.1⟩
noncomputable def KG:Cx:=⟨tpr,[(41,gY),(64,kQ),(67,zh),(81,oM),(82,yw)],[]⟩
theorem JN:aN KG GZ none Tryz.f42 kz:=by intro x;kernel_rfl
theorem qW:aq tpr 42:=an Tryz.func42 rfl (by decide)
theorem q8:aG tpr 42 kz:=aB JN (.cons l6 lY (.cons o8 oU (.cons N7 NQ (.cons Ai zZ (.cons MR Mz (.nil _)))))) aC Tryz.func42
def AQ:az:=⟨[.val tI],[.val aA],fun x=>oB x.1⟩
noncomputable def Pp:Cx:=⟨tpr,[(42,kz),(64,kQ)],[]⟩
theorem NK:aN Pp [] none Tryz.f103 AQ:=by intro x;kernel_rfl
theorem PC:aq tpr 103:=an Tryz.func103 rfl (by decide)
theorem PN:aG tpr 103 AQ:=aB NK (.cons q8 qW (.cons o8 oU (.nil _))) aC Tryz.func103
def Jx:List (Nat×Ann):=[(1,⟨[(1,.ref 1 0),(2,.ref 2 0)],[(1,El),(2,El)],[],bg _⟩),
 (200001,⟨[(1,.ref 1 0),(2,.ref 2 0)],[(1,El),(2,El)],[],fun _=>0⟩),
 (300001,⟨[(11,.val .bool)],[],[],fun _=>0⟩)]
def yq:az:=⟨[.val aA],[.val aA],fun x=>xZ x.1⟩
noncomputable def LY:Cx:=⟨tpr,[],[]⟩
theorem KT:aN LY Jx none Tryz.f104 yq:=by intro x;kernel_rfl
theorem Mw:aq tpr 104:=an Tryz.func104 rfl (by decide)
theorem MO:aG tpr 104 yq:=aB KT (.nil _) aC Tryz.func104
def nM:az:=⟨[.val .hnd,.arR bN],[.val bH],fun x=>ki x.1 x.2.1⟩
noncomputable def GG:Cx:=⟨tpr,[(103,AQ),(104,yq),(105,oL)],[]⟩
theorem Fs:aN GG [] none Tryz.f60 nM:=by intro x;kernel_rfl
theorem yI:aq tpr 60:=an Tryz.func60 rfl (by decide)
theorem yL:aG tpr 60 nM:=aB Fs (.cons PN PC (.cons MO Mw (.cons Ah zY (.nil _)))) aC Tryz.func60
def CF:List (Nat×Ann):=[(1,⟨[(0,.ref 2000 0),(1,.val tI),(10,.val (.slice aO)),(11,.val tI),(12,.val tI)],[(2000,TV)],[.ar bN],bg _⟩),
 (200001,⟨[],[(2000,TV)],[.ar bN],fun _=>0⟩)]
def lQ:az:=⟨[.box [.val bz,.val (.slice aO),.map tI .hnd,.row 244 aA,.row 258 cO,.val tI],.val tI,.ar bN],[],fun x=>iR x.1 x.2.1 x.2.2.1⟩
noncomputable def Es:Cx:=⟨tpr,[(60,nM),(171,pG)],[]⟩
theorem DA:aN Es CF none Tryz.f100 lQ:=by intro x;kernel_rfl
theorem xF:aq tpr 100:=an Tryz.func100 rfl (by decide)
theorem xI:aG tpr 100 lQ:=aB DA (.cons yL yI (.cons DR DE (.nil _))) aC Tryz.func100
def D4:az:=⟨[.val bz,.val (.slice aO),.val tI,.ar bN],[.box [.val bz,.val (.slice aO),.map tI .hnd,.row 244 aA,.row 258 cO,.val tI],.val tI],fun x=>FT x.1 x.2.1 x.2.2.1 x.2.2.2.1⟩
noncomputable def Rw:Cx:=⟨tpr,[(37,gx),(98,rC),(99,mH),(100,lQ)],[]⟩
theorem Qw:aN Rw [] none Tryz.f58 D4:=by intro x;kernel_rfl
theorem RF:aq tpr 58:=an Tryz.func58 rfl (by decide)
theorem RO:aG tpr 58 D4:=aB Qw (.cons jk jg (.cons Ce BY (.cons yf yb (.cons xI xF (.nil _))))) aC Tryz.func58
def AP:az:=⟨[.val bz,.val (.slice aO),.val tI,.ar bN],[.val .hnd,.val tI],fun x=>Bh x.1 x.2.1 x.2.2.1 x.2.2.2.1⟩
noncomputable def Po:Cx:=⟨tpr,[(37,gx),(98,rC),(99,mH),(100,lQ)],[]⟩
theorem NJ:aN Po [] none Tryz.f58 AP:=by intro x;kernel_rfl
theorem PB:aq tpr 58:=an Tryz.func58 rfl (by decide)
theorem PL:aG tpr 58 AP:=aB NJ (.cons jk jg (.cons Ce BY (.cons yf yb (.cons xI xF (.nil _))))) aC Tryz.func58
def Az:List (Nat×Ann):=[(3,⟨[(0,.ref 2000 0),(3,.own 134 .hnd),(11,.rowR 11),(12,.val tI),(13,.val tI)],[(2000,TW)],[.rowC 11 3 tI,.rowC 10250004 244 aA,.rowC 10250005 258 cO,.mapC 10250003 tI .hnd],bg _⟩),
 (200003,⟨[(3,.own 134 .hnd)],[(2000,TW)],[.rowC 10250004 244 aA,.rowC 10250005 258 cO,.mapC 10250003 tI .hnd],fun _=>0⟩)]
def nq:az:=⟨[.box [.val bz,.val (.slice aO),.map tI .hnd,.row 244 aA,.row 258 cO,.val tI]],[.row 134 .hnd],fun x=>lJ x.1⟩
noncomputable def BM:Cx:=⟨tpr,[],[(101,Se),(102,Sf)]⟩
theorem A6:aN BM Az none Tryz.f59 nq:=by intro x;kernel_rfl
theorem B2:aq tpr 59:=an Tryz.func59 rfl (by decide)
theorem Cg:aG tpr 59 nq:=aB A6 (.SU Wc V9 (.SU Wd Wa (.nil _))) aC Tryz.func59
def G7:List (Nat×Ann):=[(6,⟨[(10,.own 105 bH),(24,.rowR 60688),(25,.val tI),(26,.val tI)],[],[.rowC 60688 134 .hnd,.ar bN],bg _⟩),
 (200006,⟨[(10,.own 105 bH)],[],[.ar bN],fun _=>0⟩)]
def rB:az:=⟨[.val bz,.val (.slice aO),.val tI],[.val (.slice bH),.val tI],fun x=>rU x.1 x.2.1 x.2.2.1⟩
noncomputable def KM:Cx:=⟨tpr,[(58,AP),(58,D4),(59,nq),(60,nM)],[]⟩
theorem JT:aN KM G7 (some bN) Tryz.f27 rB:=by intro x;kernel_rfl
theorem BX:aq tpr 27:=an Tryz.func27 rfl (by decide)
theorem Cd:aG tpr 27 rB:=aB JT (.cons PL PB (.cons RO RF (.cons Cg B2 (.cons yL yI (.nil _))))) aC Tryz.func27
def jt:az:=⟨[.box [.val bz,.val (.slice aO),.val aA,.val (.slice aU),.map tI (.slice bH),.map tI aS,.row 37 gH],.val tI],[.val (.slice bH)],fun x=>iO x.1 x.2.1⟩
noncomputable def BJ:Cx:=⟨tpr,[(27,rB)],[]⟩
theorem A3:aN BJ [] none Tryz.f38 jt:=by intro x;kernel_rfl
theorem tM:aq tpr 38:=an Tryz.func38 rfl (by decide)
theorem tQ:aG tpr 38 jt:=aB A3 (.cons Cd BX (.nil _)) aC Tryz.func38
def pF:az:=⟨[.val bH,.val (.ptr eM)],[.val .bool],fun x=>sC x.1 x.2.1⟩
noncomputable def Dp:Cx:=⟨tpr,[],[]⟩
theorem CJ:aN Dp [] none Tryz.f126 pF:=by intro x;kernel_rfl
theorem DD:aq tpr 126:=an Tryz.func126 rfl (by decide)
theorem DQ:aG tpr 126 pF:=aB CJ (.nil _) aC Tryz.func126
def xO:List (Nat×Ann):=[(2,⟨[(0,.val (.slice bH)),(1,.val (.clo 126 (.ptr eM))),(7,.val tI),(8,.val tI)],[],[],bg _⟩),
 (200002,⟨[],[],[],fun _=>0⟩)]
def jH:az:=⟨[.val (.slice bH),.val (.clo 126 (.ptr eM))],[.val tI],fun x=>iE x.1 x.2.1⟩
noncomputable def yB:Cx:=⟨tpr,[(126,pF)],[]⟩
theorem x7:aN yB xO none Tryz.f125 jH:=by intro x;kernel_rfl
theorem yD:aq tpr 125:=an Tryz.func125 rfl (by decide)
theorem yE:aG tpr 125 jH:=aB x7 (.cons DQ DD (.nil _)) aC Tryz.func125
def Fa:List (Nat×Ann):=[(3,⟨[(2,.ref 2 0),(3,.ref 3 0),(4,.ref 4 0),(5,.rowR 18),(20,.val (.slice (.int .u32))),(21,.val tI),(22,.val tI)],[(2,qb),(3,qb),(4,Ek)],[.rowC 18 203 (.int .u32)],bg _⟩),
 (7,⟨[(2,.ref 2 0),(3,.ref 3 0),(4,.ref 4 0),(5,.rowR 18),(6,.val tI),(7,.val (.int .u32)),(8,.val (.int .u64)),(20,.val (.slice (.int .u32))),(21,.val tI),(22,.val tI),(28,.val (.slice (.int .u32))),(29,.val tI),(30,.val tI)],[(2,qb),(3,qb),(4,Ek)],[.rowC 18 203 (.int .u32)],bg _⟩),
 (200003,⟨[(2,.ref 2 0),(3,.ref 3 0),(4,.ref 4 0),(5,.rowR 18)],[(2,qb),(3,qb),(4,Ek)],[.rowC 18 203 (.int .u32)],fun _=>0⟩),
 (200007,⟨[(2,.ref 2 0),(3,.ref 3 0),(4,.ref 4 0),(5,.rowR 18),(6,.val tI),(8,.val (.int .u64)),(20,.val (.slice (.int .u32))),(21,.val tI),(22,.val tI)],[(2,qb),(3,qb),(4,Ek)],[.rowC 18 203 (.int .u32)],fun _=>0⟩)]
def iU:az:=⟨[.val aS,.val aS],[.val aS],fun x=>fM x.1 x.2.1⟩
noncomputable def HI:Cx:=⟨tpr,[(115,lV)],[]⟩
theorem GU:aN HI Fa none Tryz.f119 iU:=by intro x;kernel_rfl
theorem ov:aq tpr 119:=an Tryz.func119 rfl (by decide)
theorem oy:aG tpr 119 iU:=aB GU (.cons rT rQ (.nil _)) aC Tryz.func119
def KB:List (Nat×Ann):=[(3,⟨[(2,.ref 2 0),(3,.ref 3 0),(5,.val tI),(6,.val tI)],[(2,Ek),(3,qb)],[],bg _⟩),
 (200003,⟨[(2,.ref 2 0),(3,.ref 3 0)],[(2,Ek),(3,qb)],[],fun _=>0⟩)]
def zl:az:=⟨[.val tI],[.val aS],fun x=>zO x.1⟩
noncomputable def NB:Cx:=⟨tpr,[(64,kQ),(119,iU)],[]⟩
theorem Mh:aN NB KB none Tryz.f120 zl:=by intro x;kernel_rfl
theorem NU:aq tpr 120:=an Tryz.func120 rfl (by decide)
theorem Ob:aG tpr 120 zl:=aB Mh (.cons o8 oU (.cons oy ov (.nil _))) aC Tryz.func120
def xg:az:=⟨[.val aA,.val tI],[.val aS],fun x=>wC x.1 x.2.1⟩
noncomputable def KH:Cx:=⟨tpr,[(64,kQ),(119,iU),(120,zl)],[]⟩
theorem JO:aN KH [] none Tryz.f66 xg:=by intro x;kernel_rfl
theorem K5:aq tpr 66:=an Tryz.func66 rfl (by decide)
theorem Li:aG tpr 66 xg:=aB JO (.cons o8 oU (.cons oy ov (.cons Ob NU (.nil _)))) aC Tryz.func66
def oH:az:=⟨[.val aA],[.val aS],fun x=>jb x.1⟩
noncomputable def LZ:Cx:=⟨tpr,[(66,xg)],[]⟩
theorem KU:aN LZ [] none Tryz.f73 oH:=by intro x;kernel_rfl
theorem ya:aq tpr 73:=an Tryz.func73 rfl (by decide)
theorem ye:aG tpr 73 oH:=aB KU (.cons Li K5 (.nil _)) aC Tryz.func73
def Cs:az:=⟨[.val aS,.val tI],[.val aS],fun x=>zS x.1 x.2.1⟩
noncomputable def Qr:Cx:=⟨tpr,[(64,kQ),(119,iU)],[]⟩
theorem Pu:aN Qr [] none Tryz.f128 Cs:=by intro x;kernel_rfl
theorem QH:aq tpr 128:=an Tryz.func128 rfl (by decide)
theorem Q2:aG tpr 128 Cs:=aB Pu (.cons o8 oU (.cons oy ov (.nil _))) aC Tryz.func128
def mc:az:=⟨[.val aS,.val aS],[.val aS],fun x=>mQ x.1 x.2.1⟩
noncomputable def JL:Cx:=⟨tpr,[(115,lV),(116,zm),(117,rE),(118,wP)],[]⟩
theorem HR:aN JL [] none Tryz.f65 mc:=by intro x;kernel_rfl
theorem vG:aq tpr 65:=an Tryz.func65 rfl (by decide)
theorem vL:aG tpr 65 mc:=aB HR (.cons rT rQ (.cons Oc NV (.cons Ci B4 (.cons Gt Gs (.nil _))))) aC Tryz.func65
def l9:az:=⟨[.val aS,.val aS],[.val aS],fun x=>mP x.1 x.2.1⟩
noncomputable def JK:Cx:=⟨tpr,[(65,mc),(81,oM)],[]⟩
theorem HQ:aN JK [] none Tryz.f40 l9:=by intro x;kernel_rfl
theorem vF:aq tpr 40:=an Tryz.func40 rfl (by decide)
theorem vK:aG tpr 40 l9:=aB HQ (.cons vL vG (.cons Ai zZ (.nil _))) aC Tryz.func40
def rD:az:=⟨[.val aS,.val aS],[.val tI],fun x=>me x.1 x.2.1⟩
noncomputable def Fk:Cx:=⟨tpr,[(40,l9),(41,gY)],[]⟩
theorem Ey:aN Fk [] none Tryz.f127 rD:=by intro x;kernel_rfl
theorem FD:aq tpr 127:=an Tryz.func127 rfl (by decide)
theorem FQ:aG tpr 127 rD:=aB Ey (.cons vK vF (.cons l6 lY (.nil _))) aC Tryz.func127
def um:az:=⟨[.val bH],[.val aS],fun x=>xA x.1⟩
noncomputable def Qq:Cx:=⟨tpr,[(40,l9),(73,oH)],[]⟩
theorem Pt:aN Qq [] none Tryz.f39 um:=by intro x;kernel_rfl
theorem BW:aq tpr 39:=an Tryz.func39 rfl (by decide)
theorem Cb:aG tpr 39 um:=aB Pt (.cons vK vF (.cons ye ya (.nil _))) aC Tryz.func39
def rA:az:=⟨[.box [.val bz,.val (.slice aO),.val aA,.val (.slice aU),.map tI (.slice bH),.map tI aS,.row 37 gH],.val tI,.val eM],[.val tI],fun x=>pQ x.1 x.2.1 x.2.2.1⟩
noncomputable def Fi:Cx:=⟨tpr,[(38,jt),(39,um),(41,gY),(64,kQ),(65,mc),(73,oH),(119,iU),(125,jH),(127,rD),(128,Cs)],[]⟩
theorem Ev:aN Fi [] none Tryz.f72 rA:=by intro x;kernel_rfl
theorem FC:aq tpr 72:=an Tryz.func72 rfl (by decide)
theorem FP:aG tpr 72 rA:=aB Ev (.cons tQ tM (.cons Cb BW (.cons l6 lY (.cons o8 oU (.cons vL vG (.cons ye ya (.cons oy ov (.cons yE yD (.cons FQ FD (.cons Q2 QH (.nil _))))))))))) aC Tryz.func72
def AW:List (Nat×Ann):=[(8,⟨[(2,.ref 2 0),(4,.ref 4 0),(5,.fn 69 [2,3]),(40,.val (.slice eM)),(41,.val tI),(42,.val tI)],[(2,[.ref 2000 0]),(3,[.val tI]),(4,[.val .str,.val .str,.val tI,.val tI,.val tI,.val .bool,.val (.slice dZ),.val (.slice eM),.val (.slice iZ)]),(2000,LV)],[],bg _⟩),
 (200008,⟨[],[(2000,LV)],[],fun _=>0⟩)]
def jM:az:=⟨[.box [.val bz,.val (.slice aO),.val aA,.val (.slice aU),.map tI (.slice bH),.map tI aS,.row 37 gH],.val tI],[],fun x=>ff x.1 x.2.1⟩
noncomputable def CG:Cx:=⟨tpr,[(65,mc),(70,gV),(72,rA),(73,oH)],[(69,Um)]⟩
theorem BQ:aN CG AW none Tryz.f31 jM:=by intro x;kernel_rfl
theorem vj:aq tpr 31:=an Tryz.func31 rfl (by decide)
theorem vk:aG tpr 31 jM:=aB BQ (.SU WK WJ (.cons vL vG (.cons vH vC (.cons FP FC (.cons ye ya (.nil _)))))) aC Tryz.func31
def LJ:List (Nat×Ann):=[(5,⟨[(10,.ref 18 0),(25,.val tI),(26,.val tI)],[(18,LV)],[],bg _⟩),
 (200005,⟨[(10,.ref 18 0)],[(18,LV)],[],fun _=>0⟩)]
def AM:az:=⟨[.val bz,.val (.slice aO),.val aA,.val (.slice aU)],[.val (.slice gH),.val tI],fun x=>x4 x.1 x.2.1 x.2.2.1 x.2.2.2.1⟩
noncomputable def Ph:Cx:=⟨tpr,[(30,nL),(30,pS),(31,jM)],[]⟩
theorem ND:aN Ph LJ none Tryz.f8 AM:=by intro x;kernel_rfl
theorem Py:aq tpr 8:=an Tryz.func8 rfl (by decide)
theorem PI:aG tpr 8 AM:=aB ND (.cons yK yH (.cons AU AT (.cons vk vj (.nil _)))) aC Tryz.func8
def ry:az:=⟨[.val eF,.val (.ptr eF)],[.val .bool],fun x=>AS x.1 x.2.1⟩
noncomputable def Fg:Cx:=⟨tpr,[],[]⟩
theorem Et:aN Fg [] none Tryz.f188 ry:=by intro x;kernel_rfl
theorem FB:aq tpr 188:=an Tryz.func188 rfl (by decide)
theorem FO:aG tpr 188 ry:=aB Et (.nil _) aC Tryz.func188
def x2:List (Nat×Ann):=[(2,⟨[(0,.val (.slice eF)),(1,.val (.clo 188 (.ptr eF))),(7,.val tI),(8,.val tI)],[],[],bg _⟩),
 (200002,⟨[],[],[],fun _=>0⟩)]
def kD:az:=⟨[.val (.slice eF),.val (.clo 188 (.ptr eF))],[.val tI],fun x=>s6 x.1 x.2.1⟩
noncomputable def yS:Cx:=⟨tpr,[(188,ry)],[]⟩
theorem yC:aN yS x2 none Tryz.f235 kD:=by intro x;kernel_rfl
theorem yV:aq tpr 235:=an Tryz.func235 rfl (by decide)
theorem yY:aG tpr 235 kD:=aB yC (.cons FO FB (.nil _)) aC Tryz.func235
def iX:az:=⟨[.val (.slice eF),.val (.clo 188 (.ptr eF))],[.val .bool],fun x=>qx x.1 x.2.1⟩
noncomputable def xP:Cx:=⟨tpr,[(235,kD)],[]⟩
theorem wX:aN xP [] none Tryz.f187 iX:=by intro x;kernel_rfl
theorem xR:aq tpr 187:=an Tryz.func187 rfl (by decide)
theorem xT:aG tpr 187 iX:=aB wX (.cons yY yV (.nil _)) aC Tryz.func187
def oI:az:=⟨[.val aA],[.val tI],fun x=>oa x.1⟩
noncomputable def Hz:Cx:=⟨tpr,[(114,de),(165,lP)],[]⟩
theorem GK:aN Hz [] none Tryz.f189 oI:=by intro x;kernel_rfl
theorem zV:aq tpr 189:=an Tryz.func189 rfl (by decide)
theorem Ae:aG tpr 189 oI:=aB GK (.cons fE fD (.cons sW sV (.nil _))) aC Tryz.func189
def E6:List (Nat×Ann):=[(4,⟨[(0,.val (.slice eF)),(9,.val (.slice eF)),(10,.val tI),(11,.val tI)],[],[],bg _⟩),
 (200004,⟨[],[],[],fun _=>0⟩)]
def uh:az:=⟨[.val (.slice eF)],[.val tI],fun x=>CT x.1⟩
noncomputable def Hv:Cx:=⟨tpr,[(35,cN),(37,gx),(48,fm),(187,iX),(189,oI)],[]⟩
theorem GH:aN Hv E6 none Tryz.f129 uh:=by intro x;kernel_rfl
theorem H6:aq tpr 129:=an Tryz.func129 rfl (by decide)
theorem Iz:aG tpr 129 uh:=aB GH (.cons dR dO (.cons jk jg (.cons iD iC (.cons xT xR (.cons Ae zV (.nil _)))))) aC Tryz.func129
def BF:List (Nat×Ann):=[(2,⟨[(0,.val (.slice .str)),(1,.val .str),(7,.val tI),(8,.val tI)],[],[],bg _⟩),
 (200002,⟨[],[],[],fun _=>0⟩)]
def pK:az:=⟨[.val (.slice .str),.val .str],[.val tI],fun x=>yN x.1 x.2.1⟩
noncomputable def Dv:Cx:=⟨tpr,[],[]⟩
theorem CQ:aN Dv BF none Tryz.f236 pK:=by intro x;kernel_rfl
theorem DI:aq tpr 236:=an Tryz.func236 rfl (by decide)
theorem DV:aG tpr 236 pK:=aB CQ (.nil _) aC Tryz.func236
def mI:az:=⟨[.val (.slice .str),.val .str],[.val .bool],fun x=>wq x.1 x.2.1⟩
noncomputable def A2:Cx:=⟨tpr,[(236,pK)],[]⟩
theorem AG:aN A2 [] none Tryz.f190 mI:=by intro x;kernel_rfl
theorem Bb:aq tpr 190:=an Tryz.func190 rfl (by decide)
theorem Bg:aG tpr 190 mI:=aB AG (.cons DV DI (.nil _)) aC Tryz.func190
def CD:List (Nat×Ann):=[(4,⟨[(0,.val (.slice cw)),(11,.val (.slice cw)),(12,.val tI),(13,.val tI)],[],[],bg _⟩),
 (16,⟨[(0,.val (.slice cw)),(4,.ref 4 0),(11,.val (.slice cw)),(12,.val tI),(13,.val tI),(46,.val (.slice .str)),(47,.val tI),(48,.val tI)],[(4,LW)],[],bg _⟩),
 (200004,⟨[],[],[],fun _=>0⟩),
 (200016,⟨[(0,.val (.slice cw)),(11,.val (.slice cw)),(12,.val tI),(13,.val tI)],[],[],fun _=>0⟩)]
def qy:az:=⟨[.val (.slice cw)],[.val tI],fun x=>zQ x.1⟩
noncomputable def En:Cx:=⟨tpr,[(37,gx),(48,fm),(189,oI),(190,mI)],[]⟩
theorem Dw:aN En CD none Tryz.f130 qy:=by intro x;kernel_rfl
theorem ED:aq tpr 130:=an Tryz.func130 rfl (by decide)
theorem EL:aG tpr 130 qy:=aB Dw (.cons jk jg (.cons iD iC (.cons Ae zV (.cons Bg Bb (.nil _))))) aC Tryz.func130
def vQ:az:=⟨[.val (.slice eF),.val (.slice cw)],[.val tI],fun x=>Eg x.1 x.2.1⟩
noncomputable def JF:Cx:=⟨tpr,[(129,uh),(130,qy)],[]⟩
theorem HL:aN JF [] none Tryz.f74 vQ:=by intro x;kernel_rfl
theorem JY:aq tpr 74:=an Tryz.func74 rfl (by decide)
theorem J4:aG tpr 74 vQ:=aB HL (.cons Iz H6 (.cons EL ED (.nil _))) aC Tryz.func74
def AN:az:=⟨[.val aA],[.val tI],fun x=>Fb x.1⟩
noncomputable def Pj:Cx:=⟨tpr,[(191,sd)],[]⟩
theorem NF:aN Pj [] none Tryz.f131 AN:=by intro x;kernel_rfl
theorem Pz:aq tpr 131:=an Tryz.func131 rfl (by decide)
theorem PJ:aG tpr 131 AN:=aB NF (.cons AK AH (.nil _)) aC Tryz.func131
def lU:az:=⟨[.val (.slice .hnd)],[.row 154 .hnd],fun x=>vl x.1⟩
noncomputable def AB:Cx:=⟨tpr,[],[]⟩
theorem zU:aN AB [] none Tryz.f132 lU:=by intro x;kernel_rfl
theorem AI:aq tpr 132:=an Tryz.func132 rfl (by decide)
theorem AL:aG tpr 132 lU:=aB zU (.nil _) aC Tryz.func132
def vR:az:=⟨[.val .hnd,.arR aJ],[.val tI],fun x=>yP x.1 x.2.1⟩
noncomputable def JG:Cx:=⟨tpr,[],[]⟩
theorem HM:aN JG [] none Tryz.f135 vR:=by intro x;kernel_rfl
theorem JZ:aq tpr 135:=an Tryz.func135 rfl (by decide)
theorem J5:aG tpr 135 vR:=aB HM (.nil _) aC Tryz.func135
def oJ:az:=⟨[.val .hnd,.val .hnd,.arR aJ],[.val tI],fun x=>oc x.1 x.2.1 x.2.2.1⟩
noncomputable def HA:Cx:=⟨tpr,[(135,vR)],[]⟩
theorem GL:aN HA [] none Tryz.f134 oJ:=by intro x;kernel_rfl
theorem zW:aq tpr 134:=an Tryz.func134 rfl (by decide)
theorem Af:aG tpr 134 oJ:=aB GL (.cons J5 JZ (.nil _)) aC Tryz.func134
def pL:List (Nat×Ann):=[(1,⟨[(0,.rowR 10250000),(1,.val tI),(2,.val tI),(3,.val (.clo 134 .unit)),(8,.val tI)],[],[.rowC 10250000 154 .hnd,.arF aJ],bg _⟩),
 (4,⟨[(0,.rowR 10250000),(1,.val tI),(2,.val tI),(3,.val (.clo 134 .unit)),(8,.val tI),(9,.val tI)],[],[.rowC 10250000 154 .hnd,.arF aJ],bg _⟩),
 (200001,⟨[],[],[.rowC 10250000 154 .hnd,.arF aJ],fun _=>0⟩),
 (200004,⟨[(0,.rowR 10250000),(1,.val tI),(2,.val tI),(3,.val (.clo 134 .unit)),(8,.val tI)],[],[.rowC 10250000 154 .hnd,.arF aJ],fun _=>0⟩)]
def eY:az:=⟨[.mrow 154 .hnd,.val tI,.val tI,.val (.clo 134 .unit),.arR aJ],[],fun x=>fJ x.1 x.2.1 x.2.2.1 x.2.2.2.1 x.2.2.2.2.1⟩
noncomputable def qG:Cx:=⟨tpr,[(134,oJ)],[]⟩
theorem qd:aN qG pL none Tryz.f237 eY:=by intro x;kernel_rfl
theorem qH:aq tpr 237:=an Tryz.func237 rfl (by decide)
theorem qI:aG tpr 237 eY:=aB qd (.cons Af zW (.nil _)) aC Tryz.func237
def rM:List (Nat×Ann):=[(1,⟨[(0,.rowR 10250000),(1,.val tI),(2,.val tI),(3,.val tI),(10,.val tI)],[],[.rowC 10250000 154 .hnd,.arF aJ],bg _⟩),
 (200001,⟨[],[],[.rowC 10250000 154 .hnd,.arF aJ],fun _=>0⟩)]
def fV:az:=⟨[.mrow 154 .hnd,.val tI,.val tI,.val tI,.val (.clo 134 .unit),.arR aJ],[],fun x=>eE x.1 x.2.1 x.2.2.1 x.2.2.2.1 x.2.2.2.2.1 x.2.2.2.2.2.1⟩
noncomputable def tg:Cx:=⟨tpr,[],[]⟩
theorem sD:aN tg rM none Tryz.f282 fV:=by intro x;kernel_rfl
theorem tj:aq tpr 282:=an Tryz.func282 rfl (by decide)
theorem tq:aG tpr 282 fV:=aB sD (.nil _) aC Tryz.func282
def tE:List (Nat×Ann):=[(2,⟨[(0,.rowR 10250000),(2,.val tI),(4,.val (.clo 134 .unit)),(10,.val tI),(11,.val tI)],[],[.rowC 10250000 154 .hnd,.arF aJ],bg _⟩),
 (200002,⟨[(0,.rowR 10250000),(2,.val tI),(4,.val (.clo 134 .unit)),(10,.val tI)],[],[.rowC 10250000 154 .hnd,.arF aJ],fun _=>0⟩)]
def gW:az:=⟨[.mrow 154 .hnd,.val tI,.val tI,.val tI,.val (.clo 134 .unit),.arR aJ],[],fun x=>nN x.1 x.2.1 x.2.2.1 x.2.2.2.1 x.2.2.2.2.1 x.2.2.2.2.2.1⟩
noncomputable def vz:Cx:=⟨tpr,[(282,fV)],[]⟩
theorem uR:aN vz tE none Tryz.f266 gW:=by intro x;kernel_rfl
theorem vD:aq tpr 266:=an Tryz.func266 rfl (by decide)
theorem vI:aG tpr 266 gW:=aB uR (.cons tq tj (.nil _)) aC Tryz.func266
def jO:List (Nat×Ann):=[(3,⟨[(0,.rowR 10250000),(1,.val tI),(4,.val (.clo 134 .unit)),(10,.val tI),(11,.val tI)],[],[.rowC 10250000 154 .hnd,.arF aJ],bg _⟩),
 (9,⟨[(0,.rowR 10250000),(10,.val tI),(13,.val tI)],[],[.rowC 10250000 154 .hnd,.arF aJ],bg _⟩),
 (15,⟨[(0,.rowR 10250000),(2,.val tI),(4,.val (.clo 134 .unit)),(14,.val tI),(15,.val tI)],[],[.rowC 10250000 154 .hnd,.arF aJ],bg _⟩),
 (21,⟨[(0,.rowR 10250000),(14,.val tI),(17,.val tI)],[],[.rowC 10250000 154 .hnd,.arF aJ],bg _⟩),
 (33,⟨[(0,.rowR 10250000),(1,.val tI),(2,.val tI),(3,.val tI),(4,.val (.clo 134 .unit)),(18,.val tI),(19,.val tI),(20,.val tI),(21,.val tI),(22,.val tI)],[],[.rowC 10250000 154 .hnd,.arF aJ],bg _⟩),
 (100030,⟨[(0,.rowR 10250000),(1,.val tI),(2,.val tI),(3,.val tI),(4,.val (.clo 134 .unit)),(18,.val tI),(19,.val tI),(20,.val tI),(21,.val tI)],[],[.rowC 10250000 154 .hnd,.arF aJ],fun _=>0⟩),
 (100040,⟨[(0,.rowR 10250000),(1,.val tI),(3,.val tI),(4,.val (.clo 134 .unit)),(18,.val tI),(20,.val tI),(24,.val tI)],[],[.rowC 10250000 154 .hnd,.arF aJ],fun _=>0⟩),
 (100042,⟨[(0,.rowR 10250000),(3,.val tI),(4,.val (.clo 134 .unit)),(18,.val tI),(24,.val tI)],[],[.rowC 10250000 154 .hnd,.arF aJ],fun _=>0⟩),
 (200003,⟨[(0,.rowR 10250000),(1,.val tI),(10,.val tI)],[],[.rowC 10250000 154 .hnd,.arF aJ],fun _=>0⟩),
 (200009,⟨[],[],[.rowC 10250000 154 .hnd,.arF aJ],fun _=>0⟩),
 (200015,⟨[(0,.rowR 10250000),(2,.val tI),(14,.val tI)],[],[.rowC 10250000 154 .hnd,.arF aJ],fun _=>0⟩),
 (200021,⟨[],[],[.rowC 10250000 154 .hnd,.arF aJ],fun _=>0⟩),
 (200033,⟨[(0,.rowR 10250000),(1,.val tI),(2,.val tI),(3,.val tI),(4,.val (.clo 134 .unit)),(18,.val tI),(19,.val tI),(20,.val tI)],[],[.rowC 10250000 154 .hnd,.arF aJ],fun _=>0⟩)]
def bF:List PM:=[.mrow 154 .hnd,.val tI,.val tI,.val tI,.val (.clo 134 .unit),.arR aJ]
def cc:List RM:=[]
noncomputable def kG:List (Nat×az):=[(134,oJ),(266,gW)]
def kZ:az:=⟨bF,cc,fun x=>iA x.1 x.2.1 x.2.2.1 x.2.2.2.1 x.2.2.2.2.1 x.2.2.2.2.2.1⟩
theorem th:∀ (self:ew bF→Option (cE bF cc)) (x:ew bF),KR ⟨tpr,(238,⟨bF,cc,self⟩)::kG,[]⟩ jO none Tryz.f238 ⟨bF,cc,fun x=>cM self x.1 x.2.1 x.2.2.1 x.2.2.2.1 x.2.2.2.2.1 x.2.2.2.2.2.1⟩ x=cM self x.1 x.2.1 x.2.2.1 x.2.2.2.1 x.2.2.2.2.1 x.2.2.2.2.2.1:=by intro self x;kernel_rfl
theorem kU:aq tpr 238:=an Tryz.func238 rfl (by decide)
theorem tT:aG tpr 238 kZ:=RC (ps:=bF) (rs:=cc) (m:=fun n x=>IT (fun self x=>cM self x.1 x.2.1 x.2.2.1 x.2.2.2.1 x.2.2.2.2.1 x.2.2.2.2.2.1) n x) (Mu (P:=Tryz.prog) (specs:=kG) (ps:=bF) (rs:=cc) (.cons Af zW (.cons vI vD (.nil _))) (by kernel_rfl) (fun self x=>cM self x.1 x.2.1 x.2.2.1 x.2.2.2.1 x.2.2.2.2.1 x.2.2.2.2.2.1) jO none (by kernel_rfl) kU th) (fun x=>jU x.1 x.2.1 x.2.2.1 x.2.2.2.1 x.2.2.2.2.1 x.2.2.2.2.2.1)
def tF:List (Nat×Ann):=[(2,⟨[(0,.rowR 10250000),(1,.val tI),(2,.val (.clo 134 .unit)),(6,.val tI),(7,.val tI),(8,.val tI)],[],[.rowC 10250000 154 .hnd,.arF aJ],bg _⟩),
 (7,⟨[(0,.rowR 10250000),(1,.val tI),(2,.val (.clo 134 .unit)),(6,.val tI)],[],[.rowC 10250000 154 .hnd,.arF aJ],bg _⟩),
 (9,⟨[(0,.rowR 10250000),(1,.val tI),(2,.val (.clo 134 .unit)),(6,.val tI),(7,.val tI),(8,.val tI)],[],[.rowC 10250000 154 .hnd,.arF aJ],bg _⟩),
 (200002,⟨[(0,.rowR 10250000),(1,.val tI),(2,.val (.clo 134 .unit)),(6,.val tI),(7,.val tI)],[],[.rowC 10250000 154 .hnd,.arF aJ],fun _=>0⟩),
 (200007,⟨[],[],[.rowC 10250000 154 .hnd,.arF aJ],fun _=>0⟩),
 (200009,⟨[(0,.rowR 10250000),(1,.val tI),(2,.val (.clo 134 .unit)),(6,.val tI),(7,.val tI)],[],[.rowC 10250000 154 .hnd,.arF aJ],fun _=>0⟩)]
def gX:az:=⟨[.mrow 154 .hnd,.val tI,.val (.clo 134 .unit),.arR aJ],[],fun x=>nO x.1 x.2.1 x.2.2.1 x.2.2.2.1⟩
noncomputable def vA:Cx:=⟨tpr,[(237,eY),(238,kZ)],[]⟩
theorem uS:aN vA tF none Tryz.f192 gX:=by intro x;kernel_rfl
theorem vE:aq tpr 192:=an Tryz.func192 rfl (by decide)
theorem vJ:aG tpr 192 gX:=aB uS (.cons qI qH (.cons tT kU (.nil _))) aC Tryz.func192
def gG:az:=⟨[.mrow 154 .hnd,.val (.clo 134 .unit),.arR aJ],[],fun x=>nj x.1 x.2.1 x.2.2.1⟩
noncomputable def uP:Cx:=⟨tpr,[(192,gX)],[]⟩
theorem tL:aN uP [] none Tryz.f133 gG:=by intro x;kernel_rfl
theorem uW:aq tpr 133:=an Tryz.func133 rfl (by decide)
theorem u7:aG tpr 133 gG:=aB tL (.cons vJ vE (.nil _)) aC Tryz.func133
def uk:az:=⟨[.val .hnd,.val tI,.arR aJ],[.val .bool],fun x=>x5 x.1 x.2.1 x.2.2.1⟩
noncomputable def Hy:Cx:=⟨tpr,[],[]⟩
theorem GJ:aN Hy [] none Tryz.f136 uk:=by intro x;kernel_rfl
theorem H8:aq tpr 136:=an Tryz.func136 rfl (by decide)
theorem IB:aG tpr 136 uk:=aB GJ (.nil _) aC Tryz.func136
def qz:az:=⟨[.val .hnd,.arR aJ],[.val tI],fun x=>zR x.1 x.2.1⟩
noncomputable def Eo:Cx:=⟨tpr,[(191,sd)],[]⟩
theorem Dx:aN Eo [] none Tryz.f193 qz:=by intro x;kernel_rfl
theorem EE:aq tpr 193:=an Tryz.func193 rfl (by decide)
theorem EM:aG tpr 193 qz:=aB Dx (.cons AK AH (.nil _)) aC Tryz.func193
def rz:az:=⟨[.val .hnd,.val tI,.val tI,.ar aJ],[.val tI],fun x=>wG x.1 x.2.1 x.2.2.1 x.2.2.2.1⟩
noncomputable def KJ:Cx:=⟨tpr,[],[]⟩
theorem JQ:aN KJ [] none Tryz.f138 rz:=by intro x;kernel_rfl
theorem BV:aq tpr 138:=an Tryz.func138 rfl (by decide)
theorem Ca:aG tpr 138 rz:=aB JQ (.nil _) aC Tryz.func138
def uj:az:=⟨[.val .hnd,.val tI,.val tI,.ar aJ],[.val tI],fun x=>CU x.1 x.2.1 x.2.2.1 x.2.2.2.1⟩
noncomputable def Hw:Cx:=⟨tpr,[(138,rz),(193,qz)],[]⟩
theorem GI:aN Hw [] none Tryz.f137 uj:=by intro x;kernel_rfl
theorem H7:aq tpr 137:=an Tryz.func137 rfl (by decide)
theorem IA:aG tpr 137 uj:=aB GI (.cons Ca BV (.cons EM EE (.nil _))) aC Tryz.func137
def G6:List (Nat×Ann):=[(4,⟨[(1,.val (.slice cw)),(2,.val tI),(8,.own 154 .hnd),(9,.mapR 23),(24,.val (.slice eF)),(25,.val tI),(26,.val tI)],[],[.mapC 23 .str .hnd,.ar aJ],bg _⟩),
 (14,⟨[(2,.val tI),(8,.own 154 .hnd),(9,.mapR 23),(13,.rowR 105744),(14,.own 3 tI),(49,.val (.slice cw)),(50,.val tI),(51,.val tI)],[],[.rowC 105744 154 .hnd,.mapC 23 .str .hnd,.ar aJ],bg _⟩),
 (19,⟨[(2,.val tI),(8,.own 154 .hnd),(9,.mapR 23),(13,.rowR 105744),(14,.own 3 tI),(16,.ref 16 0),(17,.val tI),(49,.val (.slice cw)),(50,.val tI),(51,.val tI),(63,.val (.slice .str)),(64,.val tI),(65,.val tI)],[(16,LW)],[.rowC 105744 154 .hnd,.mapC 23 .str .hnd,.ar aJ],bg _⟩),
 (26,⟨[(2,.val tI),(8,.own 154 .hnd),(9,.mapR 23),(13,.rowR 105744),(14,.own 3 tI),(16,.ref 16 0),(17,.val tI),(49,.val (.slice cw)),(50,.val tI),(51,.val tI),(86,.rowR 105744),(87,.val tI),(88,.val tI)],[(16,LW)],[.rowC 105744 154 .hnd,.mapC 23 .str .hnd,.ar aJ],bg _⟩),
 (200004,⟨[(1,.val (.slice cw)),(2,.val tI),(8,.own 154 .hnd),(9,.mapR 23)],[],[.mapC 23 .str .hnd,.ar aJ],fun _=>0⟩),
 (200014,⟨[(8,.own 154 .hnd),(14,.own 3 tI)],[],[.ar aJ],fun _=>0⟩),
 (200019,⟨[(2,.val tI),(8,.own 154 .hnd),(9,.mapR 23),(13,.rowR 105744),(14,.own 3 tI),(16,.ref 16 0),(17,.val tI),(49,.val (.slice cw)),(50,.val tI),(51,.val tI)],[(16,LW)],[.rowC 105744 154 .hnd,.mapC 23 .str .hnd,.ar aJ],fun _=>0⟩),
 (200026,⟨[(2,.val tI),(8,.own 154 .hnd),(9,.mapR 23),(13,.rowR 105744),(14,.own 3 tI),(17,.val tI),(49,.val (.slice cw)),(50,.val tI),(51,.val tI)],[],[.rowC 105744 154 .hnd,.mapC 23 .str .hnd,.ar aJ],fun _=>0⟩)]
def xk:az:=⟨[.val (.slice eF),.val (.slice cw),.val tI,.ar aJ],[.val (.slice .hnd),.val (.slice tI)],fun x=>Gk x.1 x.2.1 x.2.2.1 x.2.2.2.1⟩
noncomputable def KK:Cx:=⟨tpr,[(131,AN),(132,lU),(133,gG),(136,uk),(137,uj),(138,rz)],[]⟩
theorem JR:aN KK G6 none Tryz.f75 xk:=by intro x;kernel_rfl
theorem K7:aq tpr 75:=an Tryz.func75 rfl (by decide)
theorem Ll:aG tpr 75 xk:=aB JR (.cons PJ Pz (.cons AL AI (.cons u7 uW (.cons IB H8 (.cons IA H7 (.cons Ca BV (.nil _))))))) aC Tryz.func75
def AO:az:=⟨[.val tI],[.val aA,.val tI],fun x=>LO x.1⟩
noncomputable def Pk:Cx:=⟨tpr,[(42,kz),(64,kQ)],[]⟩
theorem NG:aN Pk [] none Tryz.f139 AO:=by intro x;kernel_rfl
theorem PA:aq tpr 139:=an Tryz.func139 rfl (by decide)
theorem PK:aG tpr 139 AO:=aB NG (.cons q8 qW (.cons o8 oU (.nil _))) aC Tryz.func139
def vT:az:=⟨[.val tI],[.val aA],fun x=>uN x.1⟩
noncomputable def JJ:Cx:=⟨tpr,[(139,AO)],[]⟩
theorem HP:aN JJ [] none Tryz.f76 vT:=by intro x;kernel_rfl
theorem J3:aq tpr 76:=an Tryz.func76 rfl (by decide)
theorem J7:aG tpr 76 vT:=aB HP (.cons PK PA (.nil _)) aC Tryz.func76
def Pe:List (Nat×Ann):=[(7,⟨[(9,.val (.slice tI)),(10,.own 96 yy),(28,.val (.slice .hnd)),(29,.val tI),(30,.val tI)],[],[.ar aJ],bg _⟩),
 (13,⟨[(10,.own 96 yy),(13,.own 55 aA),(58,.val (.slice tI)),(59,.val tI),(60,.val tI)],[],[.ar aJ],bg _⟩),
 (200007,⟨[(9,.val (.slice tI)),(10,.own 96 yy)],[],[.ar aJ],fun _=>0⟩),
 (200013,⟨[(10,.own 96 yy),(13,.own 55 aA)],[],[.ar aJ],fun _=>0⟩)]
def D3:az:=⟨[.val (.slice eF),.val (.slice cw)],[.val (.slice yy),.val (.slice aA),.val tI],fun x=>Qg x.1 x.2.1⟩
noncomputable def Rv:Cx:=⟨tpr,[(74,vQ),(75,xk),(76,vT)],[]⟩
theorem Qv:aN Rv Pe (some aJ) Tryz.f32 D3:=by intro x;kernel_rfl
theorem RE:aq tpr 32:=an Tryz.func32 rfl (by decide)
theorem RN:aG tpr 32 D3:=aB Qv (.cons J4 JY (.cons Ll K7 (.cons J7 J3 (.nil _)))) aC Tryz.func32
def Ct:az:=⟨[],[.val .bool],fun x=>Aa ⟩
noncomputable def Qt:Cx:=⟨tpr,[(32,D3)],[]⟩
theorem Pw:aN Qt [] none Tryz.f9 Ct:=by intro x;kernel_rfl
theorem QI:aq tpr 9:=an Tryz.func9 rfl (by decide)
theorem Q3:aG tpr 9 Ct:=aB Pw (.cons RN RE (.nil _)) aC Tryz.func9
end Go.Proofs.SeatA
end
