/-
  Each function that the law reaches is as its plain model says, a further part. No condition.
-/
import Derived.Test.YtjlkkapojeldlabGreatDoorYz
set_option maxRecDepth 100000
noncomputable section
namespace Go.Proofs.SeatU
open Go.Dn Go.Md Go.Proofs
def HF:List CK:=[.val .bool,.own 181 (.int .u32)]
def pn:List CK:=[.val .bool,.val (.slice (.int .u32))]
def jU:an:=⟨[.val .bool,.val (.slice (.int .u32))],[.val cB],fun x=>fZ x.1 x.2.1⟩
noncomputable def Q6:Cx:=⟨tpr,[(144,lg)],[]⟩
theorem lR:FB 141 jU:=fbk Q6 [] none (by intro x;kernel_rfl) (cz kR (.nil _)) Tryz.func141
def QL:List (Nat×Ann):=[(100003,⟨[(0,.val tI),(2,.ref 2 0),(3,.val (.int .u64))],[(2,HF)],[],fun _=>0⟩)]
def uk:an:=⟨[.val tI],[.val cB],fun x=>oX x.1⟩
noncomputable def Ul:Cx:=⟨tpr,[(141,jU)],[]⟩
theorem yH:FB 97 uk:=fbk Ul QL none (by intro x;kernel_rfl) (cz lR (.nil _)) Tryz.func97
def EY:List (Nat×Ann):=[(3,⟨[(2,.ref 2 0),(3,.ref 3 0),(4,.ref 4 0),(5,.rowR 18),(20,.val (.slice (.int .u32))),(21,.val tI),(22,.val tI)],[(2,pn),(3,pn),(4,HF)],[.rowC 18 181 (.int .u32)],aO _⟩),
 (7,⟨[(2,.ref 2 0),(3,.ref 3 0),(4,.ref 4 0),(5,.rowR 18),(6,.val tI),(7,.val (.int .u32)),(8,.val (.int .u64)),(20,.val (.slice (.int .u32))),(21,.val tI),(22,.val tI),(28,.val (.slice (.int .u32))),(29,.val tI),(30,.val tI)],[(2,pn),(3,pn),(4,HF)],[.rowC 18 181 (.int .u32)],aO _⟩),
 (200003,⟨[(2,.ref 2 0),(3,.ref 3 0),(4,.ref 4 0),(5,.rowR 18)],[(2,pn),(3,pn),(4,HF)],[.rowC 18 181 (.int .u32)],fun _=>0⟩),
 (200007,⟨[(2,.ref 2 0),(3,.ref 3 0),(4,.ref 4 0),(5,.rowR 18),(6,.val tI),(8,.val (.int .u64)),(20,.val (.slice (.int .u32))),(21,.val tI),(22,.val tI)],[(2,pn),(3,pn),(4,HF)],[.rowC 18 181 (.int .u32)],fun _=>0⟩)]
def zT:an:=⟨[.val cB,.val cB],[.val cB],fun x=>mP x.1 x.2.1⟩
noncomputable def Ia:Cx:=⟨tpr,[(141,jU)],[]⟩
theorem Io:FB 156 zT:=fbk Ia EY none (by intro x;kernel_rfl) (cz lR (.nil _)) Tryz.func156
def Oo:List (Nat×Ann):=[(6,⟨[(1,.val (.slice (.int .u32))),(5,.own 181 (.int .u32)),(6,.val (.int .u64)),(20,.val (.slice (.int .u32))),(21,.val tI),(22,.val tI)],[],[],aO _⟩),
 (100002,⟨[(0,.val (.slice (.int .u32))),(1,.val (.slice (.int .u32)))],[],[],fun _=>0⟩),
 (100010,⟨[(1,.val (.slice (.int .u32))),(5,.own 181 (.int .u32)),(6,.val (.int .u64)),(20,.val (.slice (.int .u32))),(21,.val tI),(22,.val tI)],[],[],fun _=>0⟩),
 (200006,⟨[(5,.own 181 (.int .u32)),(6,.val (.int .u64))],[],[],fun _=>0⟩)]
def Jf:an:=⟨[.val (.slice (.int .u32)),.val (.slice (.int .u32))],[.row 181 (.int .u32)],fun x=>zW x.1 x.2.1⟩
noncomputable def Sm:Cx:=⟨tpr,[],[]⟩
theorem SD:FB 194 Jf:=fbk Sm Oo none (by intro x;kernel_rfl) (.nil _) Tryz.func194
def Li:List (Nat×Ann):=[(6,⟨[(1,.val (.slice (.int .u32))),(5,.own 181 (.int .u32)),(6,.val (.int .u64)),(20,.val (.slice (.int .u32))),(21,.val tI),(22,.val tI)],[],[],aO _⟩),
 (100002,⟨[(0,.val (.slice (.int .u32))),(1,.val (.slice (.int .u32)))],[],[],fun _=>0⟩),
 (100010,⟨[(1,.val (.slice (.int .u32))),(5,.own 181 (.int .u32)),(6,.val (.int .u64)),(20,.val (.slice (.int .u32))),(21,.val tI),(22,.val tI)],[],[],fun _=>0⟩),
 (200006,⟨[(5,.own 181 (.int .u32)),(6,.val (.int .u64))],[],[],fun _=>0⟩)]
def EJ:an:=⟨[.val (.slice (.int .u32)),.val (.slice (.int .u32))],[.val (.slice (.int .u32))],fun x=>DK x.1 x.2.1⟩
noncomputable def OE:Cx:=⟨tpr,[],[]⟩
theorem OR:FB 194 EJ:=fbk OE Li none (by intro x;kernel_rfl) (.nil _) Tryz.func194
def Hp:List (Nat×Ann):=[(4,⟨[(0,.val (.slice (.int .u32))),(1,.val (.slice (.int .u32))),(5,.val tI)],[],[],aO _⟩),
 (200004,⟨[],[],[],fun _=>0⟩)]
def vk:an:=⟨[.val (.slice (.int .u32)),.val (.slice (.int .u32))],[.val tI],fun x=>pN x.1 x.2.1⟩
noncomputable def LA:Cx:=⟨tpr,[],[]⟩
theorem BD:FB 195 vk:=fbk LA Hp none (by intro x;kernel_rfl) (.nil _) Tryz.func195
def Mu:List (Nat×Ann):=[(4,⟨[(1,.val (.slice (.int .u32))),(5,.own 181 (.int .u32)),(6,.val (.int .u64)),(13,.val (.slice (.int .u32))),(14,.val tI),(15,.val tI)],[],[],aO _⟩),
 (100008,⟨[(1,.val (.slice (.int .u32))),(5,.own 181 (.int .u32)),(9,.val (.int .u64)),(13,.val (.slice (.int .u32))),(14,.val tI),(15,.val tI)],[],[],fun _=>0⟩),
 (200004,⟨[(5,.own 181 (.int .u32))],[],[],fun _=>0⟩)]
def At:an:=⟨[.val (.slice (.int .u32)),.val (.slice (.int .u32))],[.val (.slice (.int .u32))],fun x=>sP x.1 x.2.1⟩
noncomputable def QZ:Cx:=⟨tpr,[(144,lg)],[]⟩
theorem Gs:FB 196 At:=fbk QZ Mu none (by intro x;kernel_rfl) (cz kR (.nil _)) Tryz.func196
def AI:an:=⟨[.val cB,.val cB],[.val cB],fun x=>nY x.1 x.2.1⟩
noncomputable def Ki:Cx:=⟨tpr,[(141,jU),(194,EJ),(195,vk),(196,At)],[]⟩
theorem Kr:FB 157 AI:=fbk Ki [] none (by intro x;kernel_rfl) (cz lR (cz OR (cz BD (cz Gs (.nil _))))) Tryz.func157
def tw:an:=⟨[.val cB],[.val tI],fun x=>jf x.1⟩
noncomputable def Kj:Cx:=⟨tpr,[],[]⟩
theorem Aw:FB 158 tw:=fbk Kj [] none (by intro x;kernel_rfl) (.nil _) Tryz.func158
def rE:an:=⟨[.val cB],[.val cB],fun x=>jQ x.1⟩
noncomputable def H9:Cx:=⟨tpr,[(141,jU)],[]⟩
theorem zu:FB 159 rE:=fbk H9 [] none (by intro x;kernel_rfl) (cz lR (.nil _)) Tryz.func159
def Ho:List (Nat×Ann):=[(5,⟨[(1,.val tI),(2,.ref 2 0),(6,.val (.int .u64)),(14,.val (.slice (.int .u32))),(15,.val tI),(16,.val tI)],[(2,pn)],[],aO _⟩),
 (200005,⟨[(1,.val tI),(2,.ref 2 0),(6,.val (.int .u64))],[(2,pn)],[],fun _=>0⟩)]
def Cg:an:=⟨[.val cB,.val tI],[.val tI,.val .bool],fun x=>uN x.1 x.2.1⟩
noncomputable def Ly:Cx:=⟨tpr,[],[]⟩
theorem LM:FB 197 Cg:=fbk Ly Ho none (by intro x;kernel_rfl) (.nil _) Tryz.func197
def ym:an:=⟨[.val cB,.val tI],[.val aS,.val tI],fun x=>mT x.1 x.2.1⟩
noncomputable def Ou:Cx:=⟨tpr,[(197,Cg)],[]⟩
theorem Eg:FB 160 ym:=fbk Ou [] none (by intro x;kernel_rfl) (cz LM (.nil _)) Tryz.func160
def Lg:List (Nat×Ann):=[(3,⟨[(0,.val .bool),(1,.val .str),(2,.val .str),(6,.ref 6 0),(8,.ref 8 0),(14,.val tI),(15,.val tI)],[(6,[.val tI,.val tI]),(8,pn)],[],aO _⟩),
 (200003,⟨[(0,.val .bool),(2,.val .str),(6,.ref 6 0),(8,.ref 8 0)],[(6,[.val tI,.val tI]),(8,pn)],[],fun _=>0⟩)]
def EE:an:=⟨[.val .bool,.val .str,.val .str],[.val aS,.val tI],fun x=>yC x.1 x.2.1 x.2.2.1⟩
noncomputable def Ox:Cx:=⟨tpr,[(97,uk),(156,zT),(157,AI),(158,tw),(159,rE),(160,ym)],[]⟩
theorem OM:FB 111 EE:=fbk Ox Lg none (by intro x;kernel_rfl) (cz yH (cz Io (cz Kr (cz Aw (cz zu (cz Eg (.nil _))))))) Tryz.func111
def ES:List (Nat×Ann):=[(300003,⟨[(40,.val .bool)],[],[],fun _=>0⟩)]
def zM:an:=⟨[.val .str],[.val aS,.val tI],fun x=>l7 x.1⟩
noncomputable def HK:Cx:=⟨tpr,[(14,EI),(107,jO),(109,w4),(110,AB),(111,EE)],[]⟩
theorem Ie:FB 69 zM:=fbk HK ES none (by intro x;kernel_rfl) (cz OQ (.cons wH CF (cz Fl (cz Kl (cz OM (.nil _)))))) Tryz.func69
def GI:an:=⟨[.val .str],[.val .str],fun x=>sC x.1⟩
noncomputable def QU:Cx:=⟨tpr,[],[]⟩
theorem OG:rR QU [] none Tryz.f38 GI:=by intro x;kernel_rfl
theorem Ri:cM tpr 38 GI:=mq OG (.nil _) pG Tryz.func38
def lV:an:=⟨[.val .str],[.val .bool],fun x=>eA x.1⟩
noncomputable def QT:Cx:=⟨tpr,[(70,w7)],[]⟩
theorem pz:FB 40 lV:=fbk QT [] none (by intro x;kernel_rfl) (.cons Nt Nc (.nil _)) Tryz.func40
def gZ:an:=⟨[.val tI,.val tI,.val tI],[.val .bool],fun x=>cK x.1 x.2.1 x.2.2.1⟩
noncomputable def OA:Cx:=⟨tpr,[],[]⟩
theorem ja:FB 42 gZ:=fbk OA [] none (by intro x;kernel_rfl) (.nil _) Tryz.func42
def wZ:an:=⟨[.val tI],[.val .bool],fun x=>vG x.1⟩
noncomputable def Sf:Cx:=⟨tpr,[(42,gZ)],[]⟩
theorem BB:FB 41 wZ:=fbk Sf [] none (by intro x;kernel_rfl) (cz ja (.nil _)) Tryz.func41
def CW:an:=⟨[.val tI],[.val .bool],fun x=>Bk x.1⟩
noncomputable def MH:Cx:=⟨tpr,[(42,gZ)],[]⟩
theorem MY:FB 43 CW:=fbk MH [] none (by intro x;kernel_rfl) (cz ja (.nil _)) Tryz.func43
def dY:an:=⟨[.val aS],[.val tI],fun x=>b8 x.1⟩
noncomputable def Df:Cx:=⟨tpr,[(42,gZ)],[]⟩
theorem fh:FB 71 dY:=fbk Df [] none (by intro x;kernel_rfl) (cz ja (.nil _)) Tryz.func71
def Mp:List (Nat×Ann):=[(3,⟨[(3,.val tI),(4,.val tI),(5,.val tI)],[],[],aO _⟩),
 (200003,⟨[(3,.val tI)],[],[],fun _=>0⟩)]
def uK:an:=⟨[.val tI],[.val tI],fun x=>rY x.1⟩
noncomputable def QS:Cx:=⟨tpr,[],[]⟩
theorem Af:FB 119 uK:=fbk QS Mp none (by intro x;kernel_rfl) (.nil _) Tryz.func119
def mM:an:=⟨[.val aS,.val tI],[.val .bool],fun x=>dR x.1 x.2.1⟩
noncomputable def MI:Cx:=⟨tpr,[(42,gZ),(119,uK)],[]⟩
theorem qc:FB 72 mM:=fbk MI [] none (by intro x;kernel_rfl) (cz ja (cz Af (.nil _))) Tryz.func72
def EU:List (Nat×Ann):=[(6,⟨[(0,.val (.slice bL)),(12,.val (.slice bL)),(13,.val tI),(14,.val tI)],[],[],aO _⟩),
 (200006,⟨[],[],[],fun _=>0⟩)]
def zQ:an:=⟨[.val (.slice bL)],[.val tI],fun x=>jK x.1⟩
noncomputable def HW:Cx:=⟨tpr,[(40,lV),(71,dY),(72,mM)],[]⟩
theorem Ij:FB 44 zQ:=fbk HW EU none (by intro x;kernel_rfl) (cz pz (cz fh (cz qc (.nil _)))) Tryz.func44
def Lh:List (Nat×Ann):=[(3,⟨[(3,.val tI),(4,.val tI),(5,.val tI)],[],[],aO _⟩),
 (200003,⟨[(3,.val tI)],[],[],fun _=>0⟩)]
def EH:an:=⟨[.val tI],[.val tI],fun x=>Dx x.1⟩
noncomputable def OB:Cx:=⟨tpr,[],[]⟩
theorem OP:FB 164 EH:=fbk OB Lh none (by intro x;kernel_rfl) (.nil _) Tryz.func164
def CX:an:=⟨[.val aS,.val tI,.val tI],[.val .bool],fun x=>BK x.1 x.2.1 x.2.2.1⟩
noncomputable def MK:Cx:=⟨tpr,[(164,EH)],[]⟩
theorem MZ:FB 120 CX:=fbk MK [] none (by intro x;kernel_rfl) (cz OP (.nil _)) Tryz.func120
def xB:an:=⟨[.val aS],[.val tI],fun x=>kW x.1⟩
noncomputable def GR:Cx:=⟨tpr,[(71,dY),(120,CX)],[]⟩
theorem GV:FB 73 xB:=fbk GR [] none (by intro x;kernel_rfl) (cz fh (cz MZ (.nil _))) Tryz.func73
def Ca:an:=⟨[.val bL,.val .str],[.val tI],fun x=>Ac x.1 x.2.1⟩
noncomputable def Lt:Cx:=⟨tpr,[(167,rD)],[]⟩
theorem LI:FB 166 Ca:=fbk Lt [] none (by intro x;kernel_rfl) (.cons IP It (.nil _)) Tryz.func166
def mU:List (Nat×Ann):=[(3,⟨[(0,.val (.slice bL)),(1,.val .str),(2,.val (.clo 166 .unit)),(8,.val tI),(9,.val tI),(10,.val tI)],[],[],aO _⟩),
 (200003,⟨[(0,.val (.slice bL)),(1,.val .str),(2,.val (.clo 166 .unit)),(8,.val tI),(9,.val tI)],[],[],fun _=>0⟩)]
def hY:an:=⟨[.val (.slice bL),.val .str,.val (.clo 166 .unit)],[.val tI,.val .bool],fun x=>dB x.1 x.2.1 x.2.2.1⟩
noncomputable def nL:Cx:=⟨tpr,[(166,Ca)],[]⟩
theorem nM:FB 165 hY:=fbk nL mU none (by intro x;kernel_rfl) (cz LI (.nil _)) Tryz.func165
def EG:an:=⟨[.val (.slice bL),.val .str],[.val tI,.val .bool],fun x=>yD x.1 x.2.1⟩
noncomputable def Oz:Cx:=⟨tpr,[(165,hY)],[]⟩
theorem OO:FB 121 EG:=fbk Oz [] none (by intro x;kernel_rfl) (cz nM (.nil _)) Tryz.func121
def wX:an:=⟨[.val b7,.val .str],[.val .bool],fun x=>gG x.1 x.2.1⟩
noncomputable def MJ:Cx:=⟨tpr,[(121,EG)],[]⟩
theorem CE:FB 74 wX:=fbk MJ [] none (by intro x;kernel_rfl) (cz OO (.nil _)) Tryz.func74
end Go.Proofs.SeatU
end
