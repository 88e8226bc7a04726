/-
  Each function that the law reaches is as its plain model says, a further part. No condition.
-/
import Derived.Test.YtjlkkapojeldlabGreatDoorYx
set_option maxRecDepth 100000
noncomputable section
namespace Go.Proofs.SeatU
open Go.Dn Go.Md Go.Proofs
def mm:List CK:=[.val .bool,.own 3 tI]
def Ci:List CK:=[.val .bool,.rowR 24]
def Ae:List CK:=[.val .bool,.val (.slice tI)]
def Kl:List CK:=[.val .str,.val .str,.val tI,.val tI,.val tI,.val .bool,.val (.slice dn),.val (.slice jq),.val (.slice dw)]
def Ca:List (Nat×Ann):=[(4,⟨[(2,.val .bool),(3,.ref 3 0),(13,.val (.slice dw)),(14,.val tI),(15,.val tI)],[(3,Kl)],[],aY _⟩),
 (100012,⟨[(2,.val .bool),(3,.ref 3 0),(8,.ref 8 0),(13,.val (.slice dw)),(14,.val tI),(15,.val tI),(30,.val .bool)],[(3,Kl),(8,[.val .bool,.val tI,.val tI,.val .str])],[],fun _=>0⟩),
 (200004,⟨[],[],[],fun _=>0⟩)]
def pP:ax:=⟨[.val dH,.val (.slice dw),.val .bool],[.val tI],fun x=>gU x.1 x.2.1 x.2.2.1⟩
noncomputable def EH:Cx:=⟨tpr,[(71,fe),(72,mK),(74,vQ)],[]⟩
theorem wj:FB 46 pP:=fbk EH Ca none (by intro x;kernel_rfl) (cz gE (cz pS (cz Bb (.nil _)))) Tryz.func46
def zk:ax:=⟨[.val dH,.val tI],[.val tI],fun x=>nA x.1 x.2.1⟩
noncomputable def H8:Cx:=⟨tpr,[(40,lU),(42,iq),(46,pP),(71,fe),(72,mK),(73,wo),(74,vQ)],[]⟩
theorem Ih:FB 45 zk:=fbk H8 [] none (by intro x;kernel_rfl) (cz oX (cz jh (cz wj (cz gE (cz pS (cz EM (cz Bb (.nil _)))))))) Tryz.func45
def Bx:List (Nat×Ann):=[(15,⟨[(1,.ref 1 0),(48,.val tI),(49,.val tI)],[(1,Kl)],[],aY _⟩),
 (200015,⟨[(1,.ref 1 0)],[(1,Kl)],[],fun _=>0⟩)]
def vP:ax:=⟨[.val dH],[.val tI],fun x=>gj x.1⟩
noncomputable def Dj:Cx:=⟨tpr,[(40,lU),(41,vS),(42,iq),(43,Bq),(44,yC),(45,zk),(46,pP)],[]⟩
theorem Cp:tC Dj Bx none Tryz.f13 vP:=by intro x;kernel_rfl
theorem DO:cZ tpr 13 vP:=nD Cp (cz oX (cz Aj (cz jh (cz KF (cz FN (cz Ih (cz wj (.nil _)))))))) qB Tryz.func13
def zY:List (Nat×Ann):=[(2,⟨[(0,.val (.slice .str)),(1,.val .str),(7,.val tI),(8,.val tI)],[],[],aY _⟩),
 (200002,⟨[],[],[],fun _=>0⟩)]
def tu:ax:=⟨[.val (.slice .str),.val .str],[.val tI],fun x=>jf x.1 x.2.1⟩
noncomputable def BD:Cx:=⟨tpr,[],[]⟩
theorem BH:FB 76 tu:=fbk BD zY none (by intro x;kernel_rfl) (.nil _) Tryz.func76
def kJ:ax:=⟨[.val (.slice .str),.val .str],[.val .bool],fun x=>bn x.1 x.2.1⟩
noncomputable def zu:Cx:=⟨tpr,[(76,tu)],[]⟩
theorem kz:FB 48 kJ:=fbk zu [] none (by intro x;kernel_rfl) (cz BH (.nil _)) Tryz.func48
theorem zB:cZ tpr 48 kJ:=kz.1
theorem OF:eY tpr 48:=kz.2
def mL:ax:=⟨[.box [.val (.slice .str),.val .bool]],[.val .str],fun x=>bD x.1⟩
noncomputable def Fy:Cx:=⟨tpr,[],[]⟩
theorem mq:FB 34 mL:=fbk Fy [] none (by intro x;kernel_rfl) (.nil _) Tryz.func34
theorem Gq:cZ tpr 34 mL:=mq.1
theorem UE:eY tpr 34:=mq.2
def vR:ax:=⟨[.box [.val (.slice .str),.val .bool]],[.val tI],fun x=>bK x.1⟩
noncomputable def Dk:Cx:=⟨tpr,[(34,mL),(68,EC)],[]⟩
theorem Cq:tC Dk [] none Tryz.f35 vR:=by intro x;kernel_rfl
theorem DP:cZ tpr 35 vR:=nD Cq (cz mq (.cons On Oi (.nil _))) qB Tryz.func35
def uU:ax:=⟨[.box [.val (.slice .str),.val .bool]],[.val bg],fun x=>bQ x.1⟩
noncomputable def Cn:Cx:=⟨tpr,[(34,mL),(69,yy)],[]⟩
theorem BF:tC Cn [] none Tryz.f37 uU:=by intro x;kernel_rfl
theorem CC:cZ tpr 37 uU:=nD BF (cz mq (cz FJ (.nil _))) qB Tryz.func37
def Da:List (Nat×Ann):=[(300001,⟨[(20,.val .bool)],[],[],fun _=>0⟩)]
def yD:ax:=⟨[.box [.val (.slice .str),.val .bool],.val .str],[.val .bool],fun x=>dR x.1 x.2.1⟩
noncomputable def Fx:Cx:=⟨tpr,[],[]⟩
theorem EL:tC Fx Da none Tryz.f36 yD:=by intro x;kernel_rfl
theorem Gp:cZ tpr 36 yD:=nD EL (.nil _) qB Tryz.func36
def Cb:List (Nat×Ann):=[(300001,⟨[(2,.val .bool)],[],[],fun _=>0⟩)]
def wm:ax:=⟨[.box [.val (.slice .str),.val .bool]],[.val .bool],fun x=>cg x.1⟩
noncomputable def EI:Cx:=⟨tpr,[],[]⟩
theorem Dq:tC EI Cb none Tryz.f39 wm:=by intro x;kernel_rfl
theorem EN:cZ tpr 39 wm:=nD Dq (.nil _) qB Tryz.func39
def I7:List (Nat×Ann):=[(4,⟨[(0,.val .str),(7,.val tI),(8,.val tI)],[],[],aY _⟩),
 (200004,⟨[],[],[],fun _=>0⟩)]
def CT:ax:=⟨[.val .str],[.val .bool],fun x=>jB x.1⟩
noncomputable def L9:Cx:=⟨tpr,[],[]⟩
theorem Ml:FB 126 CT:=fbk L9 I7 none (by intro x;kernel_rfl) (.nil _) Tryz.func126
def I8:List (Nat×Ann):=[(3,⟨[(0,.val .str),(4,.val tI),(7,.val tI),(8,.val tI)],[],[],aY _⟩),
 (200003,⟨[(4,.val tI)],[],[],fun _=>0⟩)]
def CU:ax:=⟨[.val .str],[.val tI,.val .bool],fun x=>xL x.1⟩
noncomputable def Ma:Cx:=⟨tpr,[],[]⟩
theorem Mm:FB 127 CU:=fbk Ma I8 none (by intro x;kernel_rfl) (.nil _) Tryz.func127
def I6:List (Nat×Ann):=[(300005,⟨[(51,.val .bool)],[],[],fun _=>0⟩),
 (300007,⟨[(60,.val .bool)],[],[],fun _=>0⟩)]
def CS:ax:=⟨[.val .str],[.val bg,.val tI],fun x=>gF x.1⟩
noncomputable def L8:Cx:=⟨tpr,[(14,sg),(70,pY),(109,oK),(126,CT),(127,CU)],[]⟩
theorem Kx:tC L8 I6 none Tryz.f77 CS:=by intro x;kernel_rfl
theorem MC:cZ tpr 77 CS:=nD Kx (cz rL (.cons Bl Be (cz vm (cz Ml (cz Mm (.nil _)))))) qB Tryz.func77
def LR:List (Nat×Ann):=[(4,⟨[(0,.val .str),(23,.val tI),(24,.val tI)],[],[],aY _⟩),
 (200004,⟨[],[],[],fun _=>0⟩)]
def GO:ax:=⟨[.val .str],[.val .bool],fun x=>GC x.1⟩
noncomputable def Po:Cx:=⟨tpr,[],[]⟩
theorem Pz:FB 78 GO:=fbk Po LR none (by intro x;kernel_rfl) (.nil _) Tryz.func78
def AI:ax:=⟨[.val .str],[.val .bool],fun x=>kN x.1⟩
noncomputable def Pn:Cx:=⟨tpr,[(78,GO)],[]⟩
theorem FO:FB 52 AI:=fbk Pn [] none (by intro x;kernel_rfl) (cz Pz (.nil _)) Tryz.func52
def AJ:ax:=⟨[.val tI,.val tI,.val tI],[.val .bool],fun x=>uQ x.1 x.2.1 x.2.2.1⟩
noncomputable def Pp:Cx:=⟨tpr,[],[]⟩
theorem FP:FB 128 AJ:=fbk Pp [] none (by intro x;kernel_rfl) (.nil _) Tryz.func128
def IS:ax:=⟨[.val tI],[.val .bool],fun x=>JP x.1⟩
noncomputable def QV:Cx:=⟨tpr,[(128,AJ)],[]⟩
theorem Rd:FB 79 IS:=fbk QV [] none (by intro x;kernel_rfl) (cz FP (.nil _)) Tryz.func79
def IM:ax:=⟨[.val tI],[.val .bool],fun x=>DX x.1⟩
noncomputable def QO:Cx:=⟨tpr,[(79,IS)],[]⟩
theorem Q9:FB 53 IM:=fbk QO [] none (by intro x;kernel_rfl) (cz Rd (.nil _)) Tryz.func53
def yW:ax:=⟨[.val tI,.val tI,.val tI],[.val .bool],fun x=>kG x.1 x.2.1 x.2.2.1⟩
noncomputable def N8:Cx:=⟨tpr,[],[]⟩
theorem Em:FB 54 yW:=fbk N8 [] none (by intro x;kernel_rfl) (.nil _) Tryz.func54
def qT:ax:=⟨[.val bg],[.val tI],fun x=>jS x.1⟩
noncomputable def FC:Cx:=⟨tpr,[(128,AJ)],[]⟩
theorem yd:FB 80 qT:=fbk FC [] none (by intro x;kernel_rfl) (cz FP (.nil _)) Tryz.func80
def SW:List (Nat×Ann):=[(2,⟨[(0,.val tI),(2,.ref 2 0),(3,.ref 3 0)],[(2,mm),(3,mm)],[],aY _⟩),
 (200002,⟨[(2,.ref 2 0),(3,.ref 3 0)],[(2,mm),(3,mm)],[],fun _=>0⟩)]
def JS:ax:=⟨[.val tI],[.val bz],fun x=>HD x.1⟩
noncomputable def VM:Cx:=⟨tpr,[],[]⟩
theorem Py:FB 174 JS:=fbk VM SW none (by intro x;kernel_rfl) (.nil _) Tryz.func174
def Ka:List (Nat×Ann):=[(1,⟨[(1,.ref 1 0),(2,.ref 2 0)],[(1,Ae),(2,mm)],[],aY _⟩),
 (200001,⟨[(1,.ref 1 0),(2,.ref 2 0)],[(1,Ae),(2,mm)],[],fun _=>0⟩)]
def yY:ax:=⟨[.val bz],[.val bz],fun x=>mH x.1⟩
noncomputable def Oa:Cx:=⟨tpr,[],[]⟩
theorem Eo:FB 203 yY:=fbk Oa Ka none (by intro x;kernel_rfl) (.nil _) Tryz.func203
def J9:List (Nat×Ann):=[(3,⟨[(3,.ref 3 0),(4,.ref 4 0),(5,.ref 5 0),(27,.val (.slice tI)),(28,.val tI),(29,.val tI)],[(3,Ae),(4,mm),(5,Ci)],[.rowC 24 3 tI],aY _⟩),
 (6,⟨[(3,.ref 3 0),(4,.ref 4 0),(5,.ref 5 0),(6,.val tI),(7,.val tI),(27,.val (.slice tI)),(28,.val tI),(29,.val tI),(35,.val (.slice tI)),(36,.val tI),(37,.val tI)],[(3,Ae),(4,mm),(5,Ci)],[.rowC 24 3 tI],aY _⟩),
 (14,⟨[(4,.ref 4 0),(5,.ref 5 0),(86,.val tI),(87,.val tI)],[(4,mm),(5,Ci)],[.rowC 24 3 tI],aY _⟩),
 (200003,⟨[(4,.ref 4 0),(5,.ref 5 0)],[(4,mm),(5,Ci)],[.rowC 24 3 tI],fun _=>0⟩),
 (200006,⟨[(3,.ref 3 0),(4,.ref 4 0),(5,.ref 5 0),(27,.val (.slice tI)),(28,.val tI),(29,.val tI)],[(3,Ae),(4,mm),(5,Ci)],[.rowC 24 3 tI],fun _=>0⟩),
 (200014,⟨[(4,.ref 4 0),(5,.ref 5 0)],[(4,mm),(5,Ci)],[.rowC 24 3 tI],fun _=>0⟩)]
def yX:ax:=⟨[.val bz,.val bz],[.val bz],fun x=>rU x.1 x.2.1⟩
noncomputable def N9:Cx:=⟨tpr,[(203,yY)],[]⟩
theorem En:FB 173 yX:=fbk N9 J9 none (by intro x;kernel_rfl) (cz Eo (.nil _)) Tryz.func173
def NS:List (Nat×Ann):=[(3,⟨[(2,.ref 2 0),(3,.ref 3 0),(5,.val tI),(6,.val tI)],[(2,mm),(3,Ae)],[],aY _⟩),
 (200003,⟨[(2,.ref 2 0),(3,.ref 3 0)],[(2,mm),(3,Ae)],[],fun _=>0⟩)]
def IP:ax:=⟨[.val tI],[.val bz],fun x=>DZ x.1⟩
noncomputable def QT:Cx:=⟨tpr,[(173,yX),(174,JS)],[]⟩
theorem Rb:FB 175 IP:=fbk QT NS none (by intro x;kernel_rfl) (cz En (cz Py (.nil _))) Tryz.func175
def Qu:ax:=⟨[.val bg,.val tI],[.val bz],fun x=>Lb x.1 x.2.1⟩
noncomputable def VL:Cx:=⟨tpr,[(173,yX),(174,JS),(175,IP)],[]⟩
theorem VO:FB 130 Qu:=fbk VL [] none (by intro x;kernel_rfl) (cz En (cz Py (cz Rb (.nil _)))) Tryz.func130
def IN:ax:=⟨[.val bz],[.val bz],fun x=>DY x.1⟩
noncomputable def QS:Cx:=⟨tpr,[],[]⟩
theorem Ra:FB 172 IN:=fbk QS [] none (by intro x;kernel_rfl) (.nil _) Tryz.func172
def NT:List (Nat×Ann):=[(4,⟨[(0,.val (.slice tI)),(1,.val (.slice tI)),(5,.val tI)],[],[],aY _⟩),
 (200004,⟨[],[],[],fun _=>0⟩)]
def IT:ax:=⟨[.val (.slice tI),.val (.slice tI)],[.val tI],fun x=>D6 x.1 x.2.1⟩
noncomputable def QW:Cx:=⟨tpr,[],[]⟩
theorem Re:FB 201 IT:=fbk QW NT none (by intro x;kernel_rfl) (.nil _) Tryz.func201
end Go.Proofs.SeatU
end
