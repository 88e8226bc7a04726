/-
  Each function that the law reaches is as its plain model says, a further part. No condition.
-/
import Derived.Test.YtjlkkapojeldlabGreatDoorYx
set_option maxRecDepth 100000
noncomputable section
namespace Go.Proofs.SeatU
open Go.Dn Go.Md Go.Proofs
def mo:List CK:=[.val .bool,.own 3 tI]
def DW:List CK:=[.val .bool,.rowR 24]
def Bu:List CK:=[.val .bool,.val (.slice tI)]
def ME:List CK:=[.val .str,.val .str,.val tI,.val tI,.val tI,.val .bool,.val (.slice bL),.val (.slice b9),.val (.slice aY)]
def DO:List (Nat×Ann):=[(4,⟨[(2,.val .bool),(3,.ref 3 0),(13,.val (.slice aY)),(14,.val tI),(15,.val tI)],[(3,ME)],[],aO _⟩),
 (100012,⟨[(2,.val .bool),(3,.ref 3 0),(8,.ref 8 0),(13,.val (.slice aY)),(14,.val tI),(15,.val tI),(30,.val .bool)],[(3,ME),(8,[.val .bool,.val tI,.val tI,.val .str])],[],fun _=>0⟩),
 (200004,⟨[],[],[],fun _=>0⟩)]
def p9:an:=⟨[.val b7,.val (.slice aY),.val .bool],[.val tI],fun x=>gR x.1 x.2.1 x.2.2.1⟩
noncomputable def GP:Cx:=⟨tpr,[(71,dY),(72,mM),(74,wX)],[]⟩
theorem xu:FB 46 p9:=fbk GP DO none (by intro x;kernel_rfl) (cz fh (cz qc (cz CE (.nil _)))) Tryz.func46
def AG:an:=⟨[.val b7,.val tI],[.val tI],fun x=>nJ x.1 x.2.1⟩
noncomputable def Kg:Cx:=⟨tpr,[(40,lV),(42,gZ),(46,p9),(71,dY),(72,mM),(73,xB),(74,wX)],[]⟩
theorem Kp:FB 45 AG:=fbk Kg [] none (by intro x;kernel_rfl) (cz pz (cz ja (cz xu (cz fh (cz qc (cz GV (cz CE (.nil _)))))))) Tryz.func45
def C9:List (Nat×Ann):=[(15,⟨[(1,.ref 1 0),(48,.val tI),(49,.val tI)],[(1,ME)],[],aO _⟩),
 (200015,⟨[(1,.ref 1 0)],[(1,ME)],[],fun _=>0⟩)]
def wW:an:=⟨[.val b7],[.val tI],fun x=>dh x.1⟩
noncomputable def Fb:Cx:=⟨tpr,[(40,lV),(41,wZ),(42,gZ),(43,CW),(44,zQ),(45,AG),(46,p9)],[]⟩
theorem Ec:rR Fb C9 none Tryz.f13 wW:=by intro x;kernel_rfl
theorem FG:cM tpr 13 wW:=mq Ec (cz pz (cz BB (cz ja (cz MY (cz Ij (cz Kp (cz xu (.nil _)))))))) pG Tryz.func13
def Bn:List (Nat×Ann):=[(2,⟨[(0,.val (.slice .str)),(1,.val .str),(7,.val tI),(8,.val tI)],[],[],aO _⟩),
 (200002,⟨[],[],[],fun _=>0⟩)]
def uh:an:=⟨[.val (.slice .str),.val .str],[.val tI],fun x=>lF x.1 x.2.1⟩
noncomputable def Di:Cx:=⟨tpr,[],[]⟩
theorem Dq:FB 76 uh:=fbk Di Bn none (by intro x;kernel_rfl) (.nil _) Tryz.func76
def qj:an:=⟨[.val (.slice .str),.val .str],[.val .bool],fun x=>jr x.1 x.2.1⟩
noncomputable def AO:Cx:=⟨tpr,[(76,uh)],[]⟩
theorem AR:FB 48 qj:=fbk AO [] none (by intro x;kernel_rfl) (cz Dq (.nil _)) Tryz.func48
def mN:an:=⟨[.box [.val (.slice .str),.val .bool]],[.val .str],fun x=>bC x.1⟩
noncomputable def HZ:Cx:=⟨tpr,[],[]⟩
theorem mz:FB 34 mN:=fbk HZ [] none (by intro x;kernel_rfl) (.nil _) Tryz.func34
theorem IN:cM tpr 34 mN:=mz.1
theorem Yu:dZ tpr 34:=mz.2
def wY:an:=⟨[.box [.val (.slice .str),.val .bool]],[.val tI],fun x=>bI x.1⟩
noncomputable def Fc:Cx:=⟨tpr,[(34,mN),(68,GH)],[]⟩
theorem Ed:rR Fc [] none Tryz.f35 wY:=by intro x;kernel_rfl
theorem FH:cM tpr 35 wY:=mq Ed (cz mz (.cons Rh Rc (.nil _))) pG Tryz.func35
def vO:an:=⟨[.box [.val (.slice .str),.val .bool]],[.val aS],fun x=>bU x.1⟩
noncomputable def D7:Cx:=⟨tpr,[(34,mN),(69,zM)],[]⟩
theorem Dl:rR D7 [] none Tryz.f37 vO:=by intro x;kernel_rfl
theorem Et:cM tpr 37 vO:=mq Dl (cz mz (cz Ie (.nil _))) pG Tryz.func37
def EV:List (Nat×Ann):=[(300001,⟨[(20,.val .bool)],[],[],fun _=>0⟩)]
def zR:an:=⟨[.box [.val (.slice .str),.val .bool],.val .str],[.val .bool],fun x=>dS x.1 x.2.1⟩
noncomputable def HY:Cx:=⟨tpr,[],[]⟩
theorem GU:rR HY EV none Tryz.f36 zR:=by intro x;kernel_rfl
theorem IM:cM tpr 36 zR:=mq GU (.nil _) pG Tryz.func36
def DP:List (Nat×Ann):=[(300001,⟨[(2,.val .bool)],[],[],fun _=>0⟩)]
def xA:an:=⟨[.box [.val (.slice .str),.val .bool]],[.val .bool],fun x=>cm x.1⟩
noncomputable def GQ:Cx:=⟨tpr,[],[]⟩
theorem Fg:rR GQ DP none Tryz.f39 xA:=by intro x;kernel_rfl
theorem GX:cM tpr 39 xA:=mq Fg (.nil _) pG Tryz.func39
def On:List (Nat×Ann):=[(4,⟨[(0,.val .str),(23,.val tI),(24,.val tI)],[],[],aO _⟩),
 (200004,⟨[],[],[],fun _=>0⟩)]
def Je:an:=⟨[.val .str],[.val .bool],fun x=>IY x.1⟩
noncomputable def Sk:Cx:=⟨tpr,[],[]⟩
theorem SC:FB 78 Je:=fbk Sk On none (by intro x;kernel_rfl) (.nil _) Tryz.func78
def Cd:an:=⟨[.val .str],[.val .bool],fun x=>kJ x.1⟩
noncomputable def Sj:Cx:=⟨tpr,[(78,Je)],[]⟩
theorem Il:FB 52 Cd:=fbk Sj [] none (by intro x;kernel_rfl) (cz SC (.nil _)) Tryz.func52
def Ce:an:=⟨[.val tI,.val tI,.val tI],[.val .bool],fun x=>vK x.1 x.2.1 x.2.2.1⟩
noncomputable def Sl:Cx:=⟨tpr,[],[]⟩
theorem Im:FB 128 Ce:=fbk Sl [] none (by intro x;kernel_rfl) (.nil _) Tryz.func128
def K8:an:=⟨[.val tI],[.val .bool],fun x=>Me x.1⟩
noncomputable def Uj:Cx:=⟨tpr,[(128,Ce)],[]⟩
theorem Uw:FB 79 K8:=fbk Uj [] none (by intro x;kernel_rfl) (cz Im (.nil _)) Tryz.func79
def KY:an:=⟨[.val tI],[.val .bool],fun x=>FT x.1⟩
noncomputable def Uf:Cx:=⟨tpr,[(79,K8)],[]⟩
theorem Us:FB 53 KY:=fbk Uf [] none (by intro x;kernel_rfl) (cz Uw (.nil _)) Tryz.func53
def Aq:an:=⟨[.val tI,.val tI,.val tI],[.val .bool],fun x=>kE x.1 x.2.1 x.2.2.1⟩
noncomputable def QW:Cx:=⟨tpr,[],[]⟩
theorem Gp:FB 54 Aq:=fbk QW [] none (by intro x;kernel_rfl) (.nil _) Tryz.func54
def mO:an:=⟨[.val aS],[.val tI],fun x=>iK x.1⟩
noncomputable def H8:Cx:=⟨tpr,[(128,Ce)],[]⟩
theorem qH:FB 80 mO:=fbk H8 [] none (by intro x;kernel_rfl) (cz Im (.nil _)) Tryz.func80
def Wh:List (Nat×Ann):=[(2,⟨[(0,.val tI),(2,.ref 2 0),(3,.ref 3 0)],[(2,mo),(3,mo)],[],aO _⟩),
 (200002,⟨[(2,.ref 2 0),(3,.ref 3 0)],[(2,mo),(3,mo)],[],fun _=>0⟩)]
def Mh:an:=⟨[.val tI],[.val bq],fun x=>JR x.1⟩
noncomputable def Z6:Cx:=⟨tpr,[],[]⟩
theorem SB:FB 174 Mh:=fbk Z6 Wh none (by intro x;kernel_rfl) (.nil _) Tryz.func174
def Mt:List (Nat×Ann):=[(1,⟨[(1,.ref 1 0),(2,.ref 2 0)],[(1,Bu),(2,mo)],[],aO _⟩),
 (200001,⟨[(1,.ref 1 0),(2,.ref 2 0)],[(1,Bu),(2,mo)],[],fun _=>0⟩)]
def As:an:=⟨[.val bq],[.val bq],fun x=>mI x.1⟩
noncomputable def QY:Cx:=⟨tpr,[],[]⟩
theorem Gr:FB 203 As:=fbk QY Mt none (by intro x;kernel_rfl) (.nil _) Tryz.func203
def Ms:List (Nat×Ann):=[(3,⟨[(3,.ref 3 0),(4,.ref 4 0),(5,.ref 5 0),(27,.val (.slice tI)),(28,.val tI),(29,.val tI)],[(3,Bu),(4,mo),(5,DW)],[.rowC 24 3 tI],aO _⟩),
 (6,⟨[(3,.ref 3 0),(4,.ref 4 0),(5,.ref 5 0),(6,.val tI),(7,.val tI),(27,.val (.slice tI)),(28,.val tI),(29,.val tI),(35,.val (.slice tI)),(36,.val tI),(37,.val tI)],[(3,Bu),(4,mo),(5,DW)],[.rowC 24 3 tI],aO _⟩),
 (14,⟨[(4,.ref 4 0),(5,.ref 5 0),(86,.val tI),(87,.val tI)],[(4,mo),(5,DW)],[.rowC 24 3 tI],aO _⟩),
 (200003,⟨[(4,.ref 4 0),(5,.ref 5 0)],[(4,mo),(5,DW)],[.rowC 24 3 tI],fun _=>0⟩),
 (200006,⟨[(3,.ref 3 0),(4,.ref 4 0),(5,.ref 5 0),(27,.val (.slice tI)),(28,.val tI),(29,.val tI)],[(3,Bu),(4,mo),(5,DW)],[.rowC 24 3 tI],fun _=>0⟩),
 (200014,⟨[(4,.ref 4 0),(5,.ref 5 0)],[(4,mo),(5,DW)],[.rowC 24 3 tI],fun _=>0⟩)]
def Ar:an:=⟨[.val bq,.val bq],[.val bq],fun x=>sG x.1 x.2.1⟩
noncomputable def QX:Cx:=⟨tpr,[(203,As)],[]⟩
theorem Gq:FB 173 Ar:=fbk QX Ms none (by intro x;kernel_rfl) (cz Gr (.nil _)) Tryz.func173
def QJ:List (Nat×Ann):=[(3,⟨[(2,.ref 2 0),(3,.ref 3 0),(5,.val tI),(6,.val tI)],[(2,mo),(3,Bu)],[],aO _⟩),
 (200003,⟨[(2,.ref 2 0),(3,.ref 3 0)],[(2,mo),(3,Bu)],[],fun _=>0⟩)]
def K6:an:=⟨[.val tI],[.val bq],fun x=>FV x.1⟩
noncomputable def Uh:Cx:=⟨tpr,[(173,Ar),(174,Mh)],[]⟩
theorem Uu:FB 175 K6:=fbk Uh QJ none (by intro x;kernel_rfl) (cz Gq (cz SB (.nil _))) Tryz.func175
def TH:an:=⟨[.val aS,.val tI],[.val bq],fun x=>NC x.1 x.2.1⟩
noncomputable def Z5:Cx:=⟨tpr,[(173,Ar),(174,Mh),(175,K6)],[]⟩
theorem aac:FB 130 TH:=fbk Z5 [] none (by intro x;kernel_rfl) (cz Gq (cz SB (cz Uu (.nil _)))) Tryz.func130
def KZ:an:=⟨[.val bq],[.val bq],fun x=>FU x.1⟩
noncomputable def Ug:Cx:=⟨tpr,[],[]⟩
theorem Ut:FB 172 KZ:=fbk Ug [] none (by intro x;kernel_rfl) (.nil _) Tryz.func172
def QK:List (Nat×Ann):=[(4,⟨[(0,.val (.slice tI)),(1,.val (.slice tI)),(5,.val tI)],[],[],aO _⟩),
 (200004,⟨[],[],[],fun _=>0⟩)]
def K9:an:=⟨[.val (.slice tI),.val (.slice tI)],[.val tI],fun x=>FW x.1 x.2.1⟩
noncomputable def Uk:Cx:=⟨tpr,[],[]⟩
theorem Ux:FB 201 K9:=fbk Uk QK none (by intro x;kernel_rfl) (.nil _) Tryz.func201
end Go.Proofs.SeatU
end
