/-
  Each function that the law reaches is as its plain model says, a further part. No condition.
-/
import Derived.Test.YtfghdjdpccoleaaGreatDoorYx
set_option maxRecDepth 100000
noncomputable section
namespace Go.Proofs.SeatU
open Go.Dn Go.Md Go.Proofs
def dA:List CK:=[.val .bool,.own 3 tI]
def wh:List CK:=[.val .bool,.rowR 24]
def hY:List CK:=[.val .bool,.val (.slice tI)]
def KN:List CK:=[.val tI,.val tI,.val tI,.val tI,.val tI,.val .str,.val tI,.val tI,.val .str,.val tI,.val tI,.val tI,.val tI]
def D5:List (Nat×Ann):=[(5,⟨[(0,.val .str),(4,.val tI),(24,.val tI),(25,.val tI)],[],[],bA _⟩),
 (200005,⟨[(4,.val tI)],[],[],fun _=>0⟩),
 (300001,⟨[(22,.val .bool)],[],[],fun _=>0⟩)]
def An:an:=⟨[.val .str],[.val tI,.val .bool],fun x=>ve x.1⟩
noncomputable def GV:Cx:=⟨tpr,[],[]⟩
theorem Hh:FB 47 An:=fbk GV D5 none (by intro x;kernel_rfl) (.nil _) Tryz.func47
def sS:an:=⟨[.box [.val .bool],.val .str],[.val tI],fun x=>dH x.1 x.2.1⟩
noncomputable def A4:Cx:=⟨tpr,[(47,An)],[]⟩
theorem Ba:FB 28 sS:=fbk A4 [] none (by intro x;kernel_rfl) (cz Hh (.nil _)) Tryz.func28
def D6:List (Nat×Ann):=[(100005,⟨[(2,.ref 2 0),(3,.val tI),(7,.val .bool)],[(2,[.val .bool,.val .bool,.val .bool,.val .bool,.val .bool])],[],fun _=>0⟩)]
def uB:an:=⟨[.val tI],[.val vO],fun x=>cy x.1⟩
noncomputable def GW:Cx:=⟨tpr,[],[]⟩
theorem zA:FB 30 uB:=fbk GW D6 none (by intro x;kernel_rfl) (.nil _) Tryz.func30
def BQ:List (Nat×Ann):=[(4,⟨[(0,.val .str),(7,.val tI),(8,.val tI)],[],[],bA _⟩),
 (200004,⟨[],[],[],fun _=>0⟩)]
def wT:an:=⟨[.val .str],[.val .bool],fun x=>gj x.1⟩
noncomputable def Ee:Cx:=⟨tpr,[],[]⟩
theorem Ep:FB 69 wT:=fbk Ee BQ none (by intro x;kernel_rfl) (.nil _) Tryz.func69
def BR:List (Nat×Ann):=[(3,⟨[(0,.val .str),(4,.val tI),(7,.val tI),(8,.val tI)],[],[],bA _⟩),
 (200003,⟨[(4,.val tI)],[],[],fun _=>0⟩)]
def wU:an:=⟨[.val .str],[.val tI,.val .bool],fun x=>rC x.1⟩
noncomputable def Ef:Cx:=⟨tpr,[],[]⟩
theorem Er:FB 71 wU:=fbk Ef BR none (by intro x;kernel_rfl) (.nil _) Tryz.func71
def BP:List (Nat×Ann):=[(300005,⟨[(51,.val .bool)],[],[],fun _=>0⟩),
 (300007,⟨[(60,.val .bool)],[],[],fun _=>0⟩)]
def wS:an:=⟨[.val .str],[.val bG,.val tI],fun x=>rB x.1⟩
noncomputable def Ed:Cx:=⟨tpr,[(11,nh),(59,kL),(69,wT),(70,lS),(71,wU)],[]⟩
theorem Eo:FB 48 wS:=fbk Ed BP none (by intro x;kernel_rfl) (cz qA (cz pz (cz Ep (.cons u7 uW (cz Er (.nil _)))))) Tryz.func48
def sr:an:=⟨[.box [.val .bool],.val .str],[.val bG],fun x=>eG x.1 x.2.1⟩
noncomputable def zg:Cx:=⟨tpr,[(48,wS)],[]⟩
theorem zz:FB 31 sr:=fbk zg [] none (by intro x;kernel_rfl) (cz Eo (.nil _)) Tryz.func31
def BS:List (Nat×Ann):=[(100007,⟨[(2,.ref 2 0),(4,.rowR 32016),(5,.ref 5 0),(6,.ref 6 0)],[(2,KN),(5,[.val .bool]),(6,KN)],[.rowC 32016 9 .str],fun _=>0⟩),
 (300002,⟨[(29,.val .bool)],[],[],fun _=>0⟩),
 (300013,⟨[(70,.val .bool)],[],[],fun _=>0⟩),
 (300017,⟨[(105,.val .bool)],[],[],fun _=>0⟩),
 (300019,⟨[(127,.val .bool)],[],[],fun _=>0⟩)]
def wW:an:=⟨[.val .str],[.val bz,.val .bool],fun x=>aS x.1⟩
noncomputable def Eh:Cx:=⟨tpr,[(15,kM),(27,lR),(28,sS),(29,gk),(30,uB),(31,sr)],[]⟩
theorem Et:FB 12 wW:=fbk Eh BS none (by intro x;kernel_rfl) (.cons oA ox (cz s5 (cz Ba (cz jj (cz zA (cz zz (.nil _))))))) Tryz.func12
def uy:an:=⟨[.val tI,.val tI,.val tI],[.val .bool],fun x=>oX x.1 x.2.1 x.2.2.1⟩
noncomputable def GS:Cx:=⟨tpr,[],[]⟩
theorem zy:FB 72 uy:=fbk GS [] none (by intro x;kernel_rfl) (.nil _) Tryz.func72
def BI:an:=⟨[.val tI],[.val .bool],fun x=>Cp x.1⟩
noncomputable def Im:Cx:=⟨tpr,[(72,uy)],[]⟩
theorem Iw:FB 49 BI:=fbk Im [] none (by intro x;kernel_rfl) (cz zy (.nil _)) Tryz.func49
def vL:an:=⟨[.val tI],[.val .bool],fun x=>ud x.1⟩
noncomputable def Ii:Cx:=⟨tpr,[(49,BI)],[]⟩
theorem Bt:FB 32 vL:=fbk Ii [] none (by intro x;kernel_rfl) (cz Iw (.nil _)) Tryz.func32
def D7:List (Nat×Ann):=[(300001,⟨[(6,.val .bool)],[],[],fun _=>0⟩)]
def qc:an:=⟨[.val tI,.val tI,.val tI],[.val .bool],fun x=>jZ x.1 x.2.1 x.2.2.1⟩
noncomputable def GX:Cx:=⟨tpr,[],[]⟩
theorem tU:FB 33 qc:=fbk GX D7 none (by intro x;kernel_rfl) (.nil _) Tryz.func33
def wV:an:=⟨[.val tI],[.val .bool],fun x=>rF x.1⟩
noncomputable def Eg:Cx:=⟨tpr,[(33,qc)],[]⟩
theorem Es:FB 34 wV:=fbk Eg [] none (by intro x;kernel_rfl) (cz tU (.nil _)) Tryz.func34
def mm:an:=⟨[.val bG],[.val tI],fun x=>gD x.1⟩
noncomputable def zf:Cx:=⟨tpr,[(72,uy)],[]⟩
theorem rN:FB 73 mm:=fbk zf [] none (by intro x;kernel_rfl) (cz zy (.nil _)) Tryz.func73
def vM:an:=⟨[.val tI],[.val bG],fun x=>qN x.1⟩
noncomputable def Ip:Cx:=⟨tpr,[],[]⟩
theorem Bu:FB 75 vM:=fbk Ip [] none (by intro x;kernel_rfl) (.nil _) Tryz.func75
def JI:List (Nat×Ann):=[(2,⟨[(0,.val tI),(2,.ref 2 0),(3,.ref 3 0)],[(2,dA),(3,dA)],[],bA _⟩),
 (200002,⟨[(2,.ref 2 0),(3,.ref 3 0)],[(2,dA),(3,dA)],[],fun _=>0⟩)]
def Cu:an:=⟨[.val tI],[.val aV],fun x=>AT x.1⟩
noncomputable def LP:Cx:=⟨tpr,[],[]⟩
theorem He:FB 123 Cu:=fbk LP JI none (by intro x;kernel_rfl) (.nil _) Tryz.func123
def CF:List (Nat×Ann):=[(1,⟨[(1,.ref 1 0),(2,.ref 2 0)],[(1,hY),(2,dA)],[],bA _⟩),
 (200001,⟨[(1,.ref 1 0),(2,.ref 2 0)],[(1,hY),(2,dA)],[],fun _=>0⟩)]
def sM:an:=⟨[.val aV],[.val aV],fun x=>jc x.1⟩
noncomputable def FV:Cx:=⟨tpr,[],[]⟩
theorem yd:FB 134 sM:=fbk FV CF none (by intro x;kernel_rfl) (.nil _) Tryz.func134
def CE:List (Nat×Ann):=[(3,⟨[(3,.ref 3 0),(4,.ref 4 0),(5,.ref 5 0),(27,.val (.slice tI)),(28,.val tI),(29,.val tI)],[(3,hY),(4,dA),(5,wh)],[.rowC 24 3 tI],bA _⟩),
 (6,⟨[(3,.ref 3 0),(4,.ref 4 0),(5,.ref 5 0),(6,.val tI),(7,.val tI),(27,.val (.slice tI)),(28,.val tI),(29,.val tI),(35,.val (.slice tI)),(36,.val tI),(37,.val tI)],[(3,hY),(4,dA),(5,wh)],[.rowC 24 3 tI],bA _⟩),
 (14,⟨[(4,.ref 4 0),(5,.ref 5 0),(86,.val tI),(87,.val tI)],[(4,dA),(5,wh)],[.rowC 24 3 tI],bA _⟩),
 (200003,⟨[(4,.ref 4 0),(5,.ref 5 0)],[(4,dA),(5,wh)],[.rowC 24 3 tI],fun _=>0⟩),
 (200006,⟨[(3,.ref 3 0),(4,.ref 4 0),(5,.ref 5 0),(27,.val (.slice tI)),(28,.val tI),(29,.val tI)],[(3,hY),(4,dA),(5,wh)],[.rowC 24 3 tI],fun _=>0⟩),
 (200014,⟨[(4,.ref 4 0),(5,.ref 5 0)],[(4,dA),(5,wh)],[.rowC 24 3 tI],fun _=>0⟩)]
def sL:an:=⟨[.val aV,.val aV],[.val aV],fun x=>mT x.1 x.2.1⟩
noncomputable def FU:Cx:=⟨tpr,[(134,sM)],[]⟩
theorem yc:FB 122 sL:=fbk FU CE none (by intro x;kernel_rfl) (cz yd (.nil _)) Tryz.func122
def FM:List (Nat×Ann):=[(3,⟨[(2,.ref 2 0),(3,.ref 3 0),(5,.val tI),(6,.val tI)],[(2,dA),(3,hY)],[],bA _⟩),
 (200003,⟨[(2,.ref 2 0),(3,.ref 3 0)],[(2,dA),(3,hY)],[],fun _=>0⟩)]
def BG:an:=⟨[.val tI],[.val aV],fun x=>xT x.1⟩
noncomputable def Ik:Cx:=⟨tpr,[(122,sL),(123,Cu)],[]⟩
theorem Iu:FB 124 BG:=fbk Ik FM none (by intro x;kernel_rfl) (cz yc (cz He (.nil _))) Tryz.func124
def HW:an:=⟨[.val bG,.val tI],[.val aV],fun x=>xR x.1 x.2.1⟩
noncomputable def LO:Cx:=⟨tpr,[(122,sL),(123,Cu),(124,BG)],[]⟩
theorem LU:FB 102 HW:=fbk LO [] none (by intro x;kernel_rfl) (cz yc (cz He (cz Iu (.nil _)))) Tryz.func102
def BF:an:=⟨[.val aV],[.val aV],fun x=>xS x.1⟩
noncomputable def Ij:Cx:=⟨tpr,[],[]⟩
theorem It:FB 121 BF:=fbk Ij [] none (by intro x;kernel_rfl) (.nil _) Tryz.func121
def FN:List (Nat×Ann):=[(4,⟨[(0,.val (.slice tI)),(1,.val (.slice tI)),(5,.val tI)],[],[],bA _⟩),
 (200004,⟨[],[],[],fun _=>0⟩)]
def BJ:an:=⟨[.val (.slice tI),.val (.slice tI)],[.val tI],fun x=>xU x.1 x.2.1⟩
noncomputable def Io:Cx:=⟨tpr,[],[]⟩
theorem Ix:FB 132 BJ:=fbk Io FN none (by intro x;kernel_rfl) (.nil _) Tryz.func132
def BH:an:=⟨[.val (.slice tI),.val tI],[.val tI],fun x=>qK x.1 x.2.1⟩
noncomputable def Il:Cx:=⟨tpr,[],[]⟩
theorem Iv:FB 133 BH:=fbk Il [] none (by intro x;kernel_rfl) (.nil _) Tryz.func133
def GB:List (Nat×Ann):=[(7,⟨[(2,.ref 2 0),(3,.ref 3 0),(4,.ref 4 0),(5,.ref 5 0),(6,.val tI),(31,.val tI),(32,.val tI)],[(2,hY),(3,hY),(4,dA),(5,dA)],[],bA _⟩),
 (19,⟨[(2,.ref 2 0),(3,.ref 3 0),(4,.ref 4 0),(9,.ref 9 0),(10,.val tI),(70,.val tI),(71,.val tI)],[(2,hY),(3,hY),(4,dA),(9,dA)],[],bA _⟩),
 (100003,⟨[(2,.ref 2 0),(3,.ref 3 0),(4,.ref 4 0)],[(2,hY),(3,hY),(4,dA)],[],fun _=>0⟩),
 (100012,⟨[(2,.ref 2 0),(3,.ref 3 0),(4,.ref 4 0),(5,.ref 5 0),(6,.val tI),(8,.val tI),(31,.val tI),(32,.val tI)],[(2,hY),(3,hY),(4,dA),(5,dA)],[],fun _=>0⟩),
 (200007,⟨[(4,.ref 4 0),(5,.ref 5 0)],[(4,dA),(5,dA)],[],fun _=>0⟩),
 (200019,⟨[(4,.ref 4 0),(9,.ref 9 0)],[(4,dA),(9,dA)],[],fun _=>0⟩)]
def DK:an:=⟨[.val aV,.val aV],[.val aV],fun x=>AU x.1 x.2.1⟩
noncomputable def JN:Cx:=⟨tpr,[(132,BJ),(133,BH),(134,sM)],[]⟩
theorem JT:FB 120 DK:=fbk JN GB none (by intro x;kernel_rfl) (cz Ix (cz Iv (cz yd (.nil _)))) Tryz.func120
def DL:an:=⟨[.val aV],[.val tI],fun x=>AV x.1⟩
noncomputable def JO:Cx:=⟨tpr,[],[]⟩
theorem JU:FB 119 DL:=fbk JO [] none (by intro x;kernel_rfl) (.nil _) Tryz.func119
def FE:an:=⟨[.val aV,.val aV],[.val tI],fun x=>Ab x.1 x.2.1⟩
noncomputable def KO:Cx:=⟨tpr,[(119,DL),(120,DK),(121,BF)],[]⟩
theorem KU:FB 101 FE:=fbk KO [] none (by intro x;kernel_rfl) (cz JU (cz JT (cz It (.nil _)))) Tryz.func101
def Al:an:=⟨[.val bG,.val bG],[.val tI],fun x=>Ad x.1 x.2.1⟩
noncomputable def KP:Cx:=⟨tpr,[(101,FE),(102,HW)],[]⟩
theorem Fe:FB 74 Al:=fbk KP [] none (by intro x;kernel_rfl) (cz KU (cz LU (.nil _))) Tryz.func74
def vW:List (Nat×Ann):=[(300001,⟨[(32,.val .bool)],[],[],fun _=>0⟩)]
def qq:an:=⟨[.val bG,.val .bool],[.val tI],fun x=>kK x.1 x.2.1⟩
noncomputable def yz:Cx:=⟨tpr,[(73,mm),(74,Al),(75,vM)],[]⟩
theorem yC:FB 50 qq:=fbk yz vW none (by intro x;kernel_rfl) (cz rN (cz Fe (cz Bu (.nil _)))) Tryz.func50
def uA:an:=⟨[.val bG],[.val tI],fun x=>n9 x.1⟩
noncomputable def BZ:Cx:=⟨tpr,[(73,mm),(74,Al),(75,vM)],[]⟩
theorem B9:FB 51 uA:=fbk BZ [] none (by intro x;kernel_rfl) (cz rN (cz Fe (cz Bu (.nil _)))) Tryz.func51
def D3:List (Nat×Ann):=[(4,⟨[(0,.val .str),(23,.val tI),(24,.val tI)],[],[],bA _⟩),
 (200004,⟨[],[],[],fun _=>0⟩)]
def Ak:an:=⟨[.val .str],[.val .bool],fun x=>Ac x.1⟩
noncomputable def GR:Cx:=⟨tpr,[],[]⟩
theorem Hf:FB 76 Ak:=fbk GR D3 none (by intro x;kernel_rfl) (.nil _) Tryz.func76
def Aj:an:=⟨[.val .str],[.val .bool],fun x=>rZ x.1⟩
noncomputable def GQ:Cx:=⟨tpr,[(76,Ak)],[]⟩
theorem G9:FB 52 Aj:=fbk GQ [] none (by intro x;kernel_rfl) (cz Hf (.nil _)) Tryz.func52
def yu:List (Nat×Ann):=[(300002,⟨[(8,.val .bool)],[],[],fun _=>0⟩),
 (300004,⟨[(20,.val .bool)],[],[],fun _=>0⟩),
 (300006,⟨[(29,.val .bool)],[],[],fun _=>0⟩),
 (300008,⟨[(38,.val .bool)],[],[],fun _=>0⟩),
 (300010,⟨[(53,.val .bool)],[],[],fun _=>0⟩),
 (300013,⟨[(114,.val .bool)],[],[],fun _=>0⟩)]
def sR:an:=⟨[.val bz],[.val tI],fun x=>mZ x.1⟩
noncomputable def A3:Cx:=⟨tpr,[(30,uB),(32,vL),(33,qc),(50,qq),(51,uA),(52,Aj)],[]⟩
theorem A9:FB 35 sR:=fbk A3 yu none (by intro x;kernel_rfl) (cz zA (cz Bt (cz tU (cz yC (cz B9 (cz G9 (.nil _))))))) Tryz.func35
def A0:List (Nat×Ann):=[(2,⟨[(22,.rowR 22),(23,.val tI),(24,.val tI)],[],[.rowC 22 3 tI],bA _⟩),
 (200002,⟨[],[],[],fun _=>0⟩)]
def vh:an:=⟨[.val bz,.val bz],[.val tI],fun x=>l9 x.1 x.2.1⟩
noncomputable def CS:Cx:=⟨tpr,[],[]⟩
theorem C5:FB 36 vh:=fbk CS A0 none (by intro x;kernel_rfl) (.nil _) Tryz.func36
def D4:List (Nat×Ann):=[(3,⟨[(1,.val tI),(5,.val tI),(8,.val (.slice bz)),(9,.val tI),(10,.val tI)],[],[],bA _⟩),
 (200003,⟨[(5,.val tI)],[],[],fun _=>0⟩)]
def Am:an:=⟨[.val (.slice bz),.val tI],[.val tI],fun x=>u9 x.1 x.2.1⟩
noncomputable def GU:Cx:=⟨tpr,[],[]⟩
theorem Hg:FB 37 Am:=fbk GU D4 none (by intro x;kernel_rfl) (.nil _) Tryz.func37
def yK:List (Nat×Ann):=[(4,⟨[(0,.val (.slice bz)),(9,.val (.slice bz)),(10,.val tI),(11,.val tI)],[],[],bA _⟩),
 (200004,⟨[],[],[],fun _=>0⟩),
 (300008,⟨[(21,.val .bool)],[],[],fun _=>0⟩),
 (300019,⟨[(70,.val .bool)],[],[],fun _=>0⟩)]
def uz:an:=⟨[.val (.slice bz)],[.val tI],fun x=>n8 x.1⟩
noncomputable def BY:Cx:=⟨tpr,[(32,vL),(33,qc),(34,wV),(35,sR),(36,vh),(37,Am)],[]⟩
theorem B8:FB 13 uz:=fbk BY yK none (by intro x;kernel_rfl) (cz Bt (cz tU (cz Es (cz A9 (cz C5 (cz Hg (.nil _))))))) Tryz.func13
def GC:List (Nat×Ann):=[(5,⟨[(0,.val .str),(5,.own 30 bz),(6,.val tI)],[],[],bA _⟩),
 (200005,⟨[(5,.own 30 bz)],[],[],fun _=>0⟩)]
def DM:an:=⟨[.val .str],[.row 30 bz,.val tI,.val tI],fun x=>AW x.1⟩
noncomputable def JP:Cx:=⟨tpr,[(11,nh),(12,wW),(13,uz)],[]⟩
theorem JV:FB 5 DM:=fbk JP GC none (by intro x;kernel_rfl) (cz qA (cz Et (cz B8 (.nil _)))) Tryz.func5
def sF:List (Nat×Ann):=[(4,⟨[(0,.val (.slice bz)),(1,.val (.slice bz)),(12,.val tI),(13,.val tI)],[],[],bA _⟩),
 (200004,⟨[],[],[],fun _=>0⟩)]
def mo:an:=⟨[.val (.slice bz),.val (.slice bz)],[.val .bool],fun x=>gE x.1 x.2.1⟩
noncomputable def tP:Cx:=⟨tpr,[],[]⟩
theorem tV:FB 6 mo:=fbk tP sF none (by intro x;kernel_rfl) (.nil _) Tryz.func6
def FL:List (Nat×Ann):=[(300002,⟨[(0,.val .bool)],[],[],fun _=>0⟩)]
def BE:an:=⟨[],[.val .bool],fun _=>Ci⟩
noncomputable def Ih:Cx:=⟨tpr,[(4,sK)],[]⟩
theorem Is:FB 7 BE:=fbk Ih FL none (by intro x;kernel_rfl) (cz yb (.nil _)) Tryz.func7
def rJ:List (Nat×Ann):=[(300003,⟨[(2,.val .bool)],[],[],fun _=>0⟩)]
def lQ:an:=⟨[.val .str],[.val .bool],fun x=>fZ x.1⟩
noncomputable def sY:Cx:=⟨tpr,[(4,sK),(5,DM),(6,mo),(7,BE)],[]⟩
theorem sG:JE sY rJ none Tryz.f3 lQ:=by intro x;kernel_rfl
theorem s7:jr tpr 3 lQ:=CY sG (cz yb (cz JV (cz tV (cz Is (.nil _))))) Ld Tryz.func3
end Go.Proofs.SeatU
end
