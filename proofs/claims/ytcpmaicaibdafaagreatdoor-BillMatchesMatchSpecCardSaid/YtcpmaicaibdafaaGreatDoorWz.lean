/-
  Each function that the laws reach is as its plain model says, a further part. No condition.
-/
import Derived.Test.YtcpmaicaibdafaaGreatDoorWy
import Derived.Test.YtcpmaicaibdafaaGreatDoorWv
set_option linter.all false
set_option maxRecDepth 100000
noncomputable section
namespace Go.Proofs.SeatA
open Go.Dn Go.Md Go.Proofs
end Go.Proofs.SeatA
set_option maxRecDepth 100000
namespace Go.Proofs.SeatA
open Go.Dn Go.Md Go.Proofs
def fM:List CK:=[.val .bool,.own 3 tI]
def IU:List CK:=[.val .bool,.rowR 24]
def nH:List CK:=[.val .bool,.val (.slice tI)]
def SP:List (Nat×Ann):=[(4,⟨[(0,.val .str),(23,.val tI),(24,.val tI)],[],[],aP _⟩),
 (200004,⟨[],[],[],fun _=>0⟩)]
def NJ:au:=⟨[.val .str],[.val .bool],fun x=>Ny x.1⟩
noncomputable def Wq:Cx:=⟨tpr,[],[]⟩
theorem WJ:FB 93 NJ:=fbk Wq SP none (by intro x;kernel_rfl) (.nil _) Tryz.func93
def rQ:au:=⟨[.val .str],[.val .bool],fun x=>fJ x.1⟩
noncomputable def Wo:Cx:=⟨tpr,[(93,NJ)],[]⟩
theorem vH:FB 51 rQ:=fbk Wo [] none (by intro x;kernel_rfl) (cz WJ (.nil _)) Tryz.func51
def Gu:au:=⟨[.val tI,.val tI,.val tI],[.val .bool],fun x=>Ak x.1 x.2.1 x.2.2.1⟩
noncomputable def Wr:Cx:=⟨tpr,[],[]⟩
theorem MN:FB 151 Gu:=fbk Wr [] none (by intro x;kernel_rfl) (.nil _) Tryz.func151
def Pu:au:=⟨[.val tI],[.val .bool],fun x=>QA x.1⟩
noncomputable def XV:Cx:=⟨tpr,[(151,Gu)],[]⟩
theorem Yc:FB 83 Pu:=fbk XV [] none (by intro x;kernel_rfl) (cz MN (.nil _)) Tryz.func83
def ur:au:=⟨[.val tI],[.val .bool],fun x=>we x.1⟩
noncomputable def XR:Cx:=⟨tpr,[(83,Pu)],[]⟩
theorem yA:FB 43 ur:=fbk XR [] none (by intro x;kernel_rfl) (cz Yc (.nil _)) Tryz.func43
def SS:List (Nat×Ann):=[(300001,⟨[(6,.val .bool)],[],[],fun _=>0⟩)]
def rR:au:=⟨[.val tI,.val tI,.val tI],[.val .bool],fun x=>lT x.1 x.2.1 x.2.2.1⟩
noncomputable def Wv:Cx:=⟨tpr,[],[]⟩
theorem vI:FB 140 rR:=fbk Wv SS none (by intro x;kernel_rfl) (.nil _) Tryz.func140
def lU:au:=⟨[.val an],[.val tI],fun x=>iG x.1⟩
noncomputable def Mu:Cx:=⟨tpr,[(151,Gu)],[]⟩
theorem pJ:FB 167 lU:=fbk Mu [] none (by intro x;kernel_rfl) (cz MN (.nil _)) Tryz.func167
def Iz:au:=⟨[.val tI],[.val an],fun x=>Ce x.1⟩
noncomputable def XZ:Cx:=⟨tpr,[],[]⟩
theorem O9:FB 239 Iz:=fbk XZ [] none (by intro x;kernel_rfl) (.nil _) Tryz.func239
def Zw:List (Nat×Ann):=[(2,⟨[(0,.val tI),(2,.ref 2 0),(3,.ref 3 0)],[(2,fM),(3,fM)],[],aP _⟩),
 (200002,⟨[(2,.ref 2 0),(3,.ref 3 0)],[(2,fM),(3,fM)],[],fun _=>0⟩)]
def Gt:au:=⟨[.val tI],[.val bf],fun x=>sX x.1⟩
noncomputable def acn:Cx:=⟨tpr,[],[]⟩
theorem Ke:FB 149 Gt:=fbk acn Zw none (by intro x;kernel_rfl) (.nil _) Tryz.func149
def QS:List (Nat×Ann):=[(1,⟨[(1,.ref 1 0),(2,.ref 2 0)],[(1,nH),(2,fM)],[],aP _⟩),
 (200001,⟨[(1,.ref 1 0),(2,.ref 2 0)],[(1,nH),(2,fM)],[],fun _=>0⟩)]
def D7:au:=⟨[.val bf],[.val bf],fun x=>p8 x.1⟩
noncomputable def Vi:Cx:=⟨tpr,[],[]⟩
theorem Lf:FB 240 D7:=fbk Vi QS none (by intro x;kernel_rfl) (.nil _) Tryz.func240
def QO:List (Nat×Ann):=[(3,⟨[(3,.ref 3 0),(4,.ref 4 0),(5,.ref 5 0),(27,.val (.slice tI)),(28,.val tI),(29,.val tI)],[(3,nH),(4,fM),(5,IU)],[.rowC 24 3 tI],aP _⟩),
 (6,⟨[(3,.ref 3 0),(4,.ref 4 0),(5,.ref 5 0),(6,.val tI),(7,.val tI),(27,.val (.slice tI)),(28,.val tI),(29,.val tI),(35,.val (.slice tI)),(36,.val tI),(37,.val tI)],[(3,nH),(4,fM),(5,IU)],[.rowC 24 3 tI],aP _⟩),
 (14,⟨[(4,.ref 4 0),(5,.ref 5 0),(86,.val tI),(87,.val tI)],[(4,fM),(5,IU)],[.rowC 24 3 tI],aP _⟩),
 (200003,⟨[(4,.ref 4 0),(5,.ref 5 0)],[(4,fM),(5,IU)],[.rowC 24 3 tI],fun _=>0⟩),
 (200006,⟨[(3,.ref 3 0),(4,.ref 4 0),(5,.ref 5 0),(27,.val (.slice tI)),(28,.val tI),(29,.val tI)],[(3,nH),(4,fM),(5,IU)],[.rowC 24 3 tI],fun _=>0⟩),
 (200014,⟨[(4,.ref 4 0),(5,.ref 5 0)],[(4,fM),(5,IU)],[.rowC 24 3 tI],fun _=>0⟩)]
def zx:au:=⟨[.val bf,.val bf],[.val bf],fun x=>lC x.1 x.2.1⟩
noncomputable def Vh:Cx:=⟨tpr,[(240,D7)],[]⟩
theorem DU:FB 197 zx:=fbk Vh QO none (by intro x;kernel_rfl) (cz Lf (.nil _)) Tryz.func197
def UZ:List (Nat×Ann):=[(3,⟨[(2,.ref 2 0),(3,.ref 3 0),(5,.val tI),(6,.val tI)],[(2,fM),(3,nH)],[],aP _⟩),
 (200003,⟨[(2,.ref 2 0),(3,.ref 3 0)],[(2,fM),(3,nH)],[],fun _=>0⟩)]
def Pr:au:=⟨[.val tI],[.val bf],fun x=>KN x.1⟩
noncomputable def XT:Cx:=⟨tpr,[(149,Gt),(197,zx)],[]⟩
theorem Ya:FB 199 Pr:=fbk XT UZ none (by intro x;kernel_rfl) (cz Ke (cz DU (.nil _))) Tryz.func199
def KW:au:=⟨[.val an,.val tI],[.val bf],fun x=>A8 x.1 x.2.1⟩
noncomputable def acm:Cx:=⟨tpr,[(149,Gt),(197,zx),(199,Pr)],[]⟩
theorem Qe:FB 148 KW:=fbk acm [] none (by intro x;kernel_rfl) (cz Ke (cz DU (cz Ya (.nil _)))) Tryz.func148
def Pq:au:=⟨[.val bf],[.val bf],fun x=>KM x.1⟩
noncomputable def XS:Cx:=⟨tpr,[],[]⟩
theorem X9:FB 243 Pq:=fbk XS [] none (by intro x;kernel_rfl) (.nil _) Tryz.func243
def U3:List (Nat×Ann):=[(4,⟨[(0,.val (.slice tI)),(1,.val (.slice tI)),(5,.val tI)],[],[],aP _⟩),
 (200004,⟨[],[],[],fun _=>0⟩)]
def Pv:au:=⟨[.val (.slice tI),.val (.slice tI)],[.val tI],fun x=>KO x.1 x.2.1⟩
noncomputable def XW:Cx:=⟨tpr,[],[]⟩
theorem Yd:FB 267 Pv:=fbk XW U3 none (by intro x;kernel_rfl) (.nil _) Tryz.func267
def Pt:au:=⟨[.val (.slice tI),.val tI],[.val tI],fun x=>Cd x.1 x.2.1⟩
noncomputable def XU:Cx:=⟨tpr,[],[]⟩
theorem Yb:FB 268 Pt:=fbk XU [] none (by intro x;kernel_rfl) (.nil _) Tryz.func268
def V5:List (Nat×Ann):=[(7,⟨[(2,.ref 2 0),(3,.ref 3 0),(4,.ref 4 0),(5,.ref 5 0),(6,.val tI),(31,.val tI),(32,.val tI)],[(2,nH),(3,nH),(4,fM),(5,fM)],[],aP _⟩),
 (19,⟨[(2,.ref 2 0),(3,.ref 3 0),(4,.ref 4 0),(9,.ref 9 0),(10,.val tI),(70,.val tI),(71,.val tI)],[(2,nH),(3,nH),(4,fM),(9,fM)],[],aP _⟩),
 (100003,⟨[(2,.ref 2 0),(3,.ref 3 0),(4,.ref 4 0)],[(2,nH),(3,nH),(4,fM)],[],fun _=>0⟩),
 (100012,⟨[(2,.ref 2 0),(3,.ref 3 0),(4,.ref 4 0),(5,.ref 5 0),(6,.val tI),(8,.val tI),(31,.val tI),(32,.val tI)],[(2,nH),(3,nH),(4,fM),(5,fM)],[],fun _=>0⟩),
 (200007,⟨[(4,.ref 4 0),(5,.ref 5 0)],[(4,fM),(5,fM)],[],fun _=>0⟩),
 (200019,⟨[(4,.ref 4 0),(9,.ref 9 0)],[(4,fM),(9,fM)],[],fun _=>0⟩)]
def Sx:au:=⟨[.val bf,.val bf],[.val bf],fun x=>Oc x.1 x.2.1⟩
noncomputable def ZE:Cx:=⟨tpr,[(240,D7),(267,Pv),(268,Pt)],[]⟩
theorem ZP:FB 242 Sx:=fbk ZE V5 none (by intro x;kernel_rfl) (cz Lf (cz Yd (cz Yb (.nil _)))) Tryz.func242
def Sy:au:=⟨[.val bf],[.val tI],fun x=>Od x.1⟩
noncomputable def ZF:Cx:=⟨tpr,[],[]⟩
theorem ZQ:FB 241 Sy:=fbk ZF [] none (by intro x;kernel_rfl) (.nil _) Tryz.func241
def HC:au:=⟨[.val bf,.val bf],[.val tI],fun x=>FY x.1 x.2.1⟩
noncomputable def aa1:Cx:=⟨tpr,[(241,Sy),(242,Sx),(243,Pq)],[]⟩
theorem MM:FB 198 HC:=fbk aa1 [] none (by intro x;kernel_rfl) (cz ZQ (cz ZP (cz X9 (.nil _)))) Tryz.func198
def HF:au:=⟨[.val an,.val an],[.val tI],fun x=>wg x.1 x.2.1⟩
noncomputable def aa3:Cx:=⟨tpr,[(148,KW),(198,HC)],[]⟩
theorem MP:FB 203 HF:=fbk aa3 [] none (by intro x;kernel_rfl) (cz Qe (cz MM (.nil _))) Tryz.func203
def IJ:List (Nat×Ann):=[(300001,⟨[(32,.val .bool)],[],[],fun _=>0⟩)]
def uK:au:=⟨[.val an,.val .bool],[.val tI],fun x=>nT x.1 x.2.1⟩
noncomputable def LL:Cx:=⟨tpr,[(167,lU),(203,HF),(239,Iz)],[]⟩
theorem BO:FB 194 uK:=fbk LL IJ none (by intro x;kernel_rfl) (cz pJ (cz MP (cz O9 (.nil _)))) Tryz.func194
def zV:au:=⟨[.val an],[.val tI],fun x=>tW x.1⟩
noncomputable def P4:Cx:=⟨tpr,[(167,lU),(203,HF),(239,Iz)],[]⟩
theorem FH:FB 195 zV:=fbk P4 [] none (by intro x;kernel_rfl) (cz pJ (cz MP (cz O9 (.nil _)))) Tryz.func195
def Om:List (Nat×Ann):=[(300004,⟨[(16,.val .bool)],[],[],fun _=>0⟩)]
def HE:au:=⟨[.val aY,.val tI],[.val tI],fun x=>Bk x.1 x.2.1⟩
noncomputable def Rl:Cx:=⟨tpr,[(51,rQ),(140,rR),(194,uK),(195,zV)],[]⟩
theorem RC:FB 141 HE:=fbk Rl Om none (by intro x;kernel_rfl) (cz vH (cz vI (cz BO (cz FH (.nil _))))) Tryz.func141
def LW:List (Nat×Ann):=[(12,⟨[(1,.ref 1 0),(51,.val tI),(52,.val tI)],[(1,[.val .str,.val .str,.val .str,.val tI,.val tI,.val (.slice eS)])],[],aP _⟩),
 (200012,⟨[],[],[],fun _=>0⟩)]
def zU:au:=⟨[.val aY],[.val tI],fun x=>tV x.1⟩
noncomputable def P3:Cx:=⟨tpr,[(43,ur),(51,rQ),(140,rR),(141,HE)],[]⟩
theorem FG:FB 77 zU:=fbk P3 LW none (by intro x;kernel_rfl) (cz yA (cz vH (cz vI (cz RC (.nil _))))) Tryz.func77
def JB:au:=⟨[.val tI],[.val .bool],fun x=>CP x.1⟩
noncomputable def Td:Cx:=⟨tpr,[(140,rR)],[]⟩
theorem Tq:FB 142 JB:=fbk Td [] none (by intro x;kernel_rfl) (cz vI (.nil _)) Tryz.func142
def SR:List (Nat×Ann):=[(100005,⟨[(2,.ref 2 0),(3,.val tI),(7,.val .bool)],[(2,[.val .bool,.val .bool,.val .bool,.val .bool,.val .bool])],[],fun _=>0⟩)]
def Gv:au:=⟨[.val tI],[.val IA],fun x=>Hu x.1⟩
noncomputable def Wu:Cx:=⟨tpr,[],[]⟩
theorem MQ:FB 196 Gv:=fbk Wu SR none (by intro x;kernel_rfl) (.nil _) Tryz.func196
def LC:List (Nat×Ann):=[(300002,⟨[(8,.val .bool)],[],[],fun _=>0⟩),
 (300004,⟨[(20,.val .bool)],[],[],fun _=>0⟩),
 (300006,⟨[(29,.val .bool)],[],[],fun _=>0⟩),
 (300008,⟨[(38,.val .bool)],[],[],fun _=>0⟩),
 (300010,⟨[(53,.val .bool)],[],[],fun _=>0⟩),
 (300013,⟨[(114,.val .bool)],[],[],fun _=>0⟩)]
def El:au:=⟨[.val ay],[.val tI],fun x=>xD x.1⟩
noncomputable def OE:Cx:=⟨tpr,[(43,ur),(51,rQ),(140,rR),(194,uK),(195,zV),(196,Gv)],[]⟩
theorem OO:FB 143 El:=fbk OE LC none (by intro x;kernel_rfl) (cz yA (cz vH (cz vI (cz BO (cz FH (cz MQ (.nil _))))))) Tryz.func143
def On:List (Nat×Ann):=[(2,⟨[(22,.rowR 22),(23,.val tI),(24,.val tI)],[],[.rowC 22 3 tI],aP _⟩),
 (200002,⟨[],[],[],fun _=>0⟩)]
def HG:au:=⟨[.val ay,.val ay],[.val tI],fun x=>wh x.1 x.2.1⟩
noncomputable def Rm:Cx:=⟨tpr,[],[]⟩
theorem RD:FB 144 HG:=fbk Rm On none (by intro x;kernel_rfl) (.nil _) Tryz.func144
def SQ:List (Nat×Ann):=[(3,⟨[(1,.val tI),(5,.val tI),(8,.val (.slice ay)),(9,.val tI),(10,.val tI)],[],[],aP _⟩),
 (200003,⟨[(5,.val tI)],[],[],fun _=>0⟩)]
def NL:au:=⟨[.val (.slice ay),.val tI],[.val tI],fun x=>Hp x.1 x.2.1⟩
noncomputable def Wt:Cx:=⟨tpr,[],[]⟩
theorem WL:FB 145 NL:=fbk Wt SQ none (by intro x;kernel_rfl) (.nil _) Tryz.func145
def LV:List (Nat×Ann):=[(4,⟨[(0,.val (.slice ay)),(9,.val (.slice ay)),(10,.val tI),(11,.val tI)],[],[],aP _⟩),
 (200004,⟨[],[],[],fun _=>0⟩),
 (300008,⟨[(21,.val .bool)],[],[],fun _=>0⟩),
 (300019,⟨[(70,.val .bool)],[],[],fun _=>0⟩)]
def zT:au:=⟨[.val (.slice ay)],[.val tI],fun x=>tU x.1⟩
noncomputable def PZ:Cx:=⟨tpr,[(43,ur),(140,rR),(142,JB),(143,El),(144,HG),(145,NL)],[]⟩
theorem FF:FB 78 zT:=fbk PZ LV none (by intro x;kernel_rfl) (cz yA (cz vI (cz Tq (cz OO (cz RD (cz WL (.nil _))))))) Tryz.func78
def zw:au:=⟨[.val tI,.val tI,.val tI],[.val .bool],fun x=>jQ x.1 x.2.1 x.2.2.1⟩
noncomputable def Vg:Cx:=⟨tpr,[],[]⟩
theorem DT:FB 36 zw:=fbk Vg [] none (by intro x;kernel_rfl) (.nil _) Tryz.func36
def rP:au:=⟨[.val an],[.val tI],fun x=>lR x.1⟩
noncomputable def I4:Cx:=⟨tpr,[(36,zw)],[]⟩
theorem Ac:FB 14 rP:=fbk I4 [] none (by intro x;kernel_rfl) (cz DT (.nil _)) Tryz.func14
def Sv:au:=⟨[.val an,.val an],[.val tI],fun x=>Jq x.1 x.2.1⟩
noncomputable def ZC:Cx:=⟨tpr,[(148,KW),(198,HC)],[]⟩
theorem ZN:FB 168 Sv:=fbk ZC [] none (by intro x;kernel_rfl) (cz Qe (cz MM (.nil _))) Tryz.func168
end Go.Proofs.SeatA
end
