/-
  Each function that the law reaches is as its plain model says, a further part. No condition.
-/
import Derived.Test.YtjlkkapojeldlabGreatDoorYz
set_option maxRecDepth 100000
noncomputable section
namespace Go.Proofs.SeatU
open Go.Dn Go.Md Go.Proofs
def Fj:List CK:=[.val .bool,.own 181 (.int .u32)]
def oV:List CK:=[.val .bool,.val (.slice (.int .u32))]
def lV:ax:=⟨[.val .bool,.val (.slice (.int .u32))],[.val dx],fun x=>gS x.1 x.2.1⟩
noncomputable def Oc:Cx:=⟨tpr,[(144,oL)],[]⟩
theorem oY:FB 141 lV:=fbk Oc [] none (by intro x;kernel_rfl) (cz uj (.nil _)) Tryz.func141
def NU:List (Nat×Ann):=[(100003,⟨[(0,.val tI),(2,.ref 2 0),(3,.val (.int .u64))],[(2,Fj)],[],fun _=>0⟩)]
def xQ:ax:=⟨[.val tI],[.val dx],fun x=>rq x.1⟩
noncomputable def QX:Cx:=⟨tpr,[(141,lV)],[]⟩
theorem BI:FB 97 xQ:=fbk QX NU none (by intro x;kernel_rfl) (cz oY (.nil _)) Tryz.func97
def Dc:List (Nat×Ann):=[(3,⟨[(2,.ref 2 0),(3,.ref 3 0),(4,.ref 4 0),(5,.rowR 18),(20,.val (.slice (.int .u32))),(21,.val tI),(22,.val tI)],[(2,oV),(3,oV),(4,Fj)],[.rowC 18 181 (.int .u32)],aY _⟩),
 (7,⟨[(2,.ref 2 0),(3,.ref 3 0),(4,.ref 4 0),(5,.rowR 18),(6,.val tI),(7,.val (.int .u32)),(8,.val (.int .u64)),(20,.val (.slice (.int .u32))),(21,.val tI),(22,.val tI),(28,.val (.slice (.int .u32))),(29,.val tI),(30,.val tI)],[(2,oV),(3,oV),(4,Fj)],[.rowC 18 181 (.int .u32)],aY _⟩),
 (200003,⟨[(2,.ref 2 0),(3,.ref 3 0),(4,.ref 4 0),(5,.rowR 18)],[(2,oV),(3,oV),(4,Fj)],[.rowC 18 181 (.int .u32)],fun _=>0⟩),
 (200007,⟨[(2,.ref 2 0),(3,.ref 3 0),(4,.ref 4 0),(5,.rowR 18),(6,.val tI),(8,.val (.int .u64)),(20,.val (.slice (.int .u32))),(21,.val tI),(22,.val tI)],[(2,oV),(3,oV),(4,Fj)],[.rowC 18 181 (.int .u32)],fun _=>0⟩)]
def yE:ax:=⟨[.val dx,.val dx],[.val dx],fun x=>mM x.1 x.2.1⟩
noncomputable def FE:Cx:=⟨tpr,[(141,lV)],[]⟩
theorem FQ:FB 156 yE:=fbk FE Dc none (by intro x;kernel_rfl) (cz oY (.nil _)) Tryz.func156
def LS:List (Nat×Ann):=[(6,⟨[(1,.val (.slice (.int .u32))),(5,.own 181 (.int .u32)),(6,.val (.int .u64)),(20,.val (.slice (.int .u32))),(21,.val tI),(22,.val tI)],[],[],aY _⟩),
 (100002,⟨[(0,.val (.slice (.int .u32))),(1,.val (.slice (.int .u32)))],[],[],fun _=>0⟩),
 (100010,⟨[(1,.val (.slice (.int .u32))),(5,.own 181 (.int .u32)),(6,.val (.int .u64)),(20,.val (.slice (.int .u32))),(21,.val tI),(22,.val tI)],[],[],fun _=>0⟩),
 (200006,⟨[(5,.own 181 (.int .u32)),(6,.val (.int .u64))],[],[],fun _=>0⟩)]
def GQ:ax:=⟨[.val (.slice (.int .u32)),.val (.slice (.int .u32))],[.row 181 (.int .u32)],fun x=>yG x.1 x.2.1⟩
noncomputable def Pq:Cx:=⟨tpr,[],[]⟩
theorem PA:FB 194 GQ:=fbk Pq LS none (by intro x;kernel_rfl) (.nil _) Tryz.func194
def I9:List (Nat×Ann):=[(6,⟨[(1,.val (.slice (.int .u32))),(5,.own 181 (.int .u32)),(6,.val (.int .u64)),(20,.val (.slice (.int .u32))),(21,.val tI),(22,.val tI)],[],[],aY _⟩),
 (100002,⟨[(0,.val (.slice (.int .u32))),(1,.val (.slice (.int .u32)))],[],[],fun _=>0⟩),
 (100010,⟨[(1,.val (.slice (.int .u32))),(5,.own 181 (.int .u32)),(6,.val (.int .u64)),(20,.val (.slice (.int .u32))),(21,.val tI),(22,.val tI)],[],[],fun _=>0⟩),
 (200006,⟨[(5,.own 181 (.int .u32)),(6,.val (.int .u64))],[],[],fun _=>0⟩)]
def CW:ax:=⟨[.val (.slice (.int .u32)),.val (.slice (.int .u32))],[.val (.slice (.int .u32))],fun x=>B6 x.1 x.2.1⟩
noncomputable def Mc:Cx:=⟨tpr,[],[]⟩
theorem Mn:FB 194 CW:=fbk Mc I9 none (by intro x;kernel_rfl) (.nil _) Tryz.func194
def E7:List (Nat×Ann):=[(4,⟨[(0,.val (.slice (.int .u32))),(1,.val (.slice (.int .u32))),(5,.val tI)],[],[],aY _⟩),
 (200004,⟨[],[],[],fun _=>0⟩)]
def uz:ax:=⟨[.val (.slice (.int .u32)),.val (.slice (.int .u32))],[.val tI],fun x=>pz x.1 x.2.1⟩
noncomputable def Jm:Cx:=⟨tpr,[],[]⟩
theorem Al:FB 195 uz:=fbk Jm E7 none (by intro x;kernel_rfl) (.nil _) Tryz.func195
def Kb:List (Nat×Ann):=[(4,⟨[(1,.val (.slice (.int .u32))),(5,.own 181 (.int .u32)),(6,.val (.int .u64)),(13,.val (.slice (.int .u32))),(14,.val tI),(15,.val tI)],[],[],aY _⟩),
 (100008,⟨[(1,.val (.slice (.int .u32))),(5,.own 181 (.int .u32)),(9,.val (.int .u64)),(13,.val (.slice (.int .u32))),(14,.val tI),(15,.val tI)],[],[],fun _=>0⟩),
 (200004,⟨[(5,.own 181 (.int .u32))],[],[],fun _=>0⟩)]
def yZ:ax:=⟨[.val (.slice (.int .u32)),.val (.slice (.int .u32))],[.val (.slice (.int .u32))],fun x=>sj x.1 x.2.1⟩
noncomputable def Ob:Cx:=⟨tpr,[(144,oL)],[]⟩
theorem Ep:FB 196 yZ:=fbk Ob Kb none (by intro x;kernel_rfl) (cz uj (.nil _)) Tryz.func196
def zm:ax:=⟨[.val dx,.val dx],[.val dx],fun x=>nS x.1 x.2.1⟩
noncomputable def Ia:Cx:=⟨tpr,[(141,lV),(194,CW),(195,uz),(196,yZ)],[]⟩
theorem Ij:FB 157 zm:=fbk Ia [] none (by intro x;kernel_rfl) (cz oY (cz Mn (cz Al (cz Ep (.nil _))))) Tryz.func157
def sM:ax:=⟨[.val dx],[.val tI],fun x=>jr x.1⟩
noncomputable def Ib:Cx:=⟨tpr,[],[]⟩
theorem ze:FB 158 sM:=fbk Ib [] none (by intro x;kernel_rfl) (.nil _) Tryz.func158
def qW:ax:=⟨[.val dx],[.val dx],fun x=>jW x.1⟩
noncomputable def FD:Cx:=⟨tpr,[(141,lV)],[]⟩
theorem ye:FB 159 qW:=fbk FD [] none (by intro x;kernel_rfl) (cz oY (.nil _)) Tryz.func159
def E6:List (Nat×Ann):=[(5,⟨[(1,.val tI),(2,.ref 2 0),(6,.val (.int .u64)),(14,.val (.slice (.int .u32))),(15,.val tI),(16,.val tI)],[(2,oV)],[],aY _⟩),
 (200005,⟨[(1,.val tI),(2,.ref 2 0),(6,.val (.int .u64))],[(2,oV)],[],fun _=>0⟩)]
def AK:ax:=⟨[.val dx,.val tI],[.val tI,.val .bool],fun x=>tW x.1 x.2.1⟩
noncomputable def Jl:Cx:=⟨tpr,[],[]⟩
theorem Jv:FB 197 AK:=fbk Jl E6 none (by intro x;kernel_rfl) (.nil _) Tryz.func197
def w8:ax:=⟨[.val dx,.val tI],[.val bg,.val tI],fun x=>mQ x.1 x.2.1⟩
noncomputable def LX:Cx:=⟨tpr,[(197,AK)],[]⟩
theorem Ct:FB 160 w8:=fbk LX [] none (by intro x;kernel_rfl) (cz Jv (.nil _)) Tryz.func160
def IY:List (Nat×Ann):=[(3,⟨[(0,.val .bool),(1,.val .str),(2,.val .str),(6,.ref 6 0),(8,.ref 8 0),(14,.val tI),(15,.val tI)],[(6,[.val tI,.val tI]),(8,oV)],[],aY _⟩),
 (200003,⟨[(0,.val .bool),(2,.val .str),(6,.ref 6 0),(8,.ref 8 0)],[(6,[.val tI,.val tI]),(8,oV)],[],fun _=>0⟩)]
def CP:ax:=⟨[.val .bool,.val .str,.val .str],[.val bg,.val tI],fun x=>xq x.1 x.2.1 x.2.2.1⟩
noncomputable def LY:Cx:=⟨tpr,[(97,xQ),(156,yE),(157,zm),(158,sM),(159,qW),(160,w8)],[]⟩
theorem Mi:FB 111 CP:=fbk LY IY none (by intro x;kernel_rfl) (cz BI (cz FQ (cz Ij (cz ze (cz ye (cz Ct (.nil _))))))) Tryz.func111
def C7:List (Nat×Ann):=[(300003,⟨[(40,.val .bool)],[],[],fun _=>0⟩)]
def yy:ax:=⟨[.val .str],[.val bg,.val tI],fun x=>l7 x.1⟩
noncomputable def Fp:Cx:=⟨tpr,[(14,sg),(107,jU),(109,oK),(110,zh),(111,CP)],[]⟩
theorem FJ:FB 69 yy:=fbk Fp C7 none (by intro x;kernel_rfl) (cz rL (.cons vD Bc (cz vm (cz Ic (cz Mi (.nil _)))))) Tryz.func69
def ED:ax:=⟨[.val .str],[.val .str],fun x=>rP x.1⟩
noncomputable def N6:Cx:=⟨tpr,[],[]⟩
theorem Me:tC N6 [] none Tryz.f38 ED:=by intro x;kernel_rfl
theorem Oo:cZ tpr 38 ED:=nD Me (.nil _) qB Tryz.func38
def lU:ax:=⟨[.val .str],[.val .bool],fun x=>eN x.1⟩
noncomputable def NZ:Cx:=⟨tpr,[(70,pY)],[]⟩
theorem oX:FB 40 lU:=fbk NZ [] none (by intro x;kernel_rfl) (.cons Bl Be (.nil _)) Tryz.func40
def iq:ax:=⟨[.val tI,.val tI,.val tI],[.val .bool],fun x=>cL x.1 x.2.1 x.2.2.1⟩
noncomputable def L6:Cx:=⟨tpr,[],[]⟩
theorem jh:FB 42 iq:=fbk L6 [] none (by intro x;kernel_rfl) (.nil _) Tryz.func42
def vS:ax:=⟨[.val tI],[.val .bool],fun x=>uM x.1⟩
noncomputable def Ph:Cx:=⟨tpr,[(42,iq)],[]⟩
theorem Aj:FB 41 vS:=fbk Ph [] none (by intro x;kernel_rfl) (cz jh (.nil _)) Tryz.func41
def Bq:ax:=⟨[.val tI],[.val .bool],fun x=>zW x.1⟩
noncomputable def Ko:Cx:=⟨tpr,[(42,iq)],[]⟩
theorem KF:FB 43 Bq:=fbk Ko [] none (by intro x;kernel_rfl) (cz jh (.nil _)) Tryz.func43
def fe:ax:=⟨[.val bg],[.val tI],fun x=>cy x.1⟩
noncomputable def BC:Cx:=⟨tpr,[(42,iq)],[]⟩
theorem gE:FB 71 fe:=fbk BC [] none (by intro x;kernel_rfl) (cz jh (.nil _)) Tryz.func71
def J7:List (Nat×Ann):=[(3,⟨[(3,.val tI),(4,.val tI),(5,.val tI)],[],[],aY _⟩),
 (200003,⟨[(3,.val tI)],[],[],fun _=>0⟩)]
def tU:ax:=⟨[.val tI],[.val tI],fun x=>rF x.1⟩
noncomputable def NY:Cx:=⟨tpr,[],[]⟩
theorem yO:FB 119 tU:=fbk NY J7 none (by intro x;kernel_rfl) (.nil _) Tryz.func119
def mK:ax:=⟨[.val bg,.val tI],[.val .bool],fun x=>dQ x.1 x.2.1⟩
noncomputable def Kp:Cx:=⟨tpr,[(42,iq),(119,tU)],[]⟩
theorem pS:FB 72 mK:=fbk Kp [] none (by intro x;kernel_rfl) (cz jh (cz yO (.nil _))) Tryz.func72
def C9:List (Nat×Ann):=[(6,⟨[(0,.val (.slice dn)),(12,.val (.slice dn)),(13,.val tI),(14,.val tI)],[],[],aY _⟩),
 (200006,⟨[],[],[],fun _=>0⟩)]
def yC:ax:=⟨[.val (.slice dn)],[.val tI],fun x=>jR x.1⟩
noncomputable def Fw:Cx:=⟨tpr,[(40,lU),(71,fe),(72,mK)],[]⟩
theorem FN:FB 44 yC:=fbk Fw C9 none (by intro x;kernel_rfl) (cz oX (cz gE (cz pS (.nil _)))) Tryz.func44
def IZ:List (Nat×Ann):=[(3,⟨[(3,.val tI),(4,.val tI),(5,.val tI)],[],[],aY _⟩),
 (200003,⟨[(3,.val tI)],[],[],fun _=>0⟩)]
def CR:ax:=⟨[.val tI],[.val tI],fun x=>BO x.1⟩
noncomputable def L7:Cx:=⟨tpr,[],[]⟩
theorem Mk:FB 164 CR:=fbk L7 IZ none (by intro x;kernel_rfl) (.nil _) Tryz.func164
def Br:ax:=⟨[.val bg,.val tI,.val tI],[.val .bool],fun x=>As x.1 x.2.1 x.2.2.1⟩
noncomputable def Kr:Cx:=⟨tpr,[(164,CR)],[]⟩
theorem KG:FB 120 Br:=fbk Kr [] none (by intro x;kernel_rfl) (cz Mk (.nil _)) Tryz.func120
def wo:ax:=⟨[.val bg],[.val tI],fun x=>lg x.1⟩
noncomputable def EJ:Cx:=⟨tpr,[(71,fe),(120,Br)],[]⟩
theorem EM:FB 73 wo:=fbk EJ [] none (by intro x;kernel_rfl) (cz gE (cz KG (.nil _))) Tryz.func73
def AG:ax:=⟨[.val dn,.val .str],[.val tI],fun x=>yL x.1 x.2.1⟩
noncomputable def Jj:Cx:=⟨tpr,[(167,qV)],[]⟩
theorem Jt:FB 166 AG:=fbk Jj [] none (by intro x;kernel_rfl) (.cons Gr FW (.nil _)) Tryz.func166
def mR:List (Nat×Ann):=[(3,⟨[(0,.val (.slice dn)),(1,.val .str),(2,.val (.clo 166 .unit)),(8,.val tI),(9,.val tI),(10,.val tI)],[],[],aY _⟩),
 (200003,⟨[(0,.val (.slice dn)),(1,.val .str),(2,.val (.clo 166 .unit)),(8,.val tI),(9,.val tI)],[],[],fun _=>0⟩)]
def ir:ax:=⟨[.val (.slice dn),.val .str,.val (.clo 166 .unit)],[.val tI,.val .bool],fun x=>dG x.1 x.2.1 x.2.2.1⟩
noncomputable def nC:Cx:=⟨tpr,[(166,AG)],[]⟩
theorem nE:FB 165 ir:=fbk nC mR none (by intro x;kernel_rfl) (cz Jt (.nil _)) Tryz.func165
def CQ:ax:=⟨[.val (.slice dn),.val .str],[.val tI,.val .bool],fun x=>xu x.1 x.2.1⟩
noncomputable def LZ:Cx:=⟨tpr,[(165,ir)],[]⟩
theorem Mj:FB 121 CQ:=fbk LZ [] none (by intro x;kernel_rfl) (cz nE (.nil _)) Tryz.func121
def vQ:ax:=⟨[.val dH,.val .str],[.val .bool],fun x=>gC x.1 x.2.1⟩
noncomputable def Kq:Cx:=⟨tpr,[(121,CQ)],[]⟩
theorem Bb:FB 74 vQ:=fbk Kq [] none (by intro x;kernel_rfl) (cz Mj (.nil _)) Tryz.func74
end Go.Proofs.SeatU
end
