/-
  Each function that the law reaches is as its plain model says, a further part. No condition.
-/
import Derived.Test.YtfghdjdpccoleabGreatDoorYy
set_option maxRecDepth 100000
noncomputable section
namespace Go.Proofs.SeatU
open Go.Dn Go.Md Go.Proofs
def gj:List CK:=[.val .bool,.own 3 tI]
def IV:List CK:=[.val .bool,.rowR 24]
def nZ:List CK:=[.val .bool,.val (.slice tI)]
def aaQ:List CK:=[.val .str,.val .bool,.val (.slice ah),.val (.slice ah)]
def IW:List CK:=[.val .str,.val .str,.val tI,.val (.slice bh),.val (.slice aO)]
def DF:List (Nat×Ann):=[(11,⟨[(3,.ref 3 0),(6,.own 35 aq),(54,.val (.slice ah)),(55,.val tI),(56,.val tI)],[(3,aaQ),(2000,IW)],[],aI _⟩),
 (100005,⟨[(3,.ref 3 0),(6,.own 35 aq)],[(3,aaQ),(2000,IW)],[],fun _=>0⟩),
 (200011,⟨[(6,.own 35 aq)],[(2000,IW)],[],fun _=>0⟩)]
def wB:aA:=⟨[.box [.val bY,.val (.slice aO)],.val aO],[.val (.slice aq),.val tI],fun x=>jf x.1 x.2.1⟩
noncomputable def E7:Cx:=⟨tpr,[(48,mE),(51,GI),(52,uu),(53,wA)],[]⟩
theorem Fb:FB 18 wB:=fbk E7 DF none (by intro x;kernel_rfl) (cz p8 (cz Qe (cz Bk (cz Bj (.nil _))))) Tryz.func18
def GH:aA:=⟨[.val tI],[.val .bool],fun x=>cmp_isNaN_int x.1⟩
noncomputable def PZ:Cx:=⟨tpr,[],[]⟩
theorem Qd:FB 56 GH:=fbk PZ [] none (by intro x;kernel_rfl) (.nil _) Tryz.func56
def D7:aA:=⟨[.val tI,.val tI],[.val tI],fun x=>vU x.1 x.2.1⟩
noncomputable def Mq:Cx:=⟨tpr,[(56,GH)],[]⟩
theorem MD:FB 23 D7:=fbk Mq [] none (by intro x;kernel_rfl) (cz Qd (.nil _)) Tryz.func23
def vJ:aA:=⟨[.val aq,.val aq],[.val tI],fun x=>fR x.1 x.2.1⟩
noncomputable def Lv:Cx:=⟨tpr,[(21,ED),(22,gY),(23,D7)],[]⟩
theorem Ca:FB 20 vJ:=fbk Lv [] none (by intro x;kernel_rfl) (cz K5 (.cons mo mj (cz MD (.nil _)))) Tryz.func20
def pg:List (Nat×Ann):=[(1,⟨[(0,.rowR 10250000),(1,.val tI),(2,.val tI),(3,.val (.clo 20 .unit)),(8,.val tI)],[],[.rowC 10250000 35 aq],aI _⟩),
 (4,⟨[(0,.rowR 10250000),(1,.val tI),(2,.val tI),(3,.val (.clo 20 .unit)),(8,.val tI),(9,.val tI)],[],[.rowC 10250000 35 aq],aI _⟩),
 (200001,⟨[],[],[.rowC 10250000 35 aq],fun _=>0⟩),
 (200004,⟨[(0,.rowR 10250000),(1,.val tI),(2,.val tI),(3,.val (.clo 20 .unit)),(8,.val tI)],[],[.rowC 10250000 35 aq],fun _=>0⟩)]
def iV:aA:=⟨[.mrow 35 aq,.val tI,.val tI,.val (.clo 20 .unit)],[],fun x=>sk x.1 x.2.1 x.2.2.1 x.2.2.2.1⟩
noncomputable def pZ:Cx:=⟨tpr,[(20,vJ)],[]⟩
theorem qa:FB 105 iV:=fbk pZ pg none (by intro x;kernel_rfl) (cz Ca (.nil _)) Tryz.func105
def rA:List (Nat×Ann):=[(1,⟨[(0,.rowR 10250000),(1,.val tI),(2,.val tI),(3,.val tI),(10,.val tI)],[],[.rowC 10250000 35 aq],aI _⟩),
 (200001,⟨[],[],[.rowC 10250000 35 aq],fun _=>0⟩)]
def kj:aA:=⟨[.mrow 35 aq,.val tI,.val tI,.val tI,.val (.clo 20 .unit)],[],fun x=>vI x.1 x.2.1 x.2.2.1 x.2.2.2.1 x.2.2.2.2.1⟩
noncomputable def sJ:Cx:=⟨tpr,[],[]⟩
theorem sM:FB 202 kj:=fbk sJ rA none (by intro x;kernel_rfl) (.nil _) Tryz.func202
def tv:List (Nat×Ann):=[(2,⟨[(0,.rowR 10250000),(2,.val tI),(4,.val (.clo 20 .unit)),(10,.val tI),(11,.val tI)],[],[.rowC 10250000 35 aq],aI _⟩),
 (200002,⟨[(0,.rowR 10250000),(2,.val tI),(4,.val (.clo 20 .unit)),(10,.val tI)],[],[.rowC 10250000 35 aq],fun _=>0⟩)]
def lJ:aA:=⟨[.mrow 35 aq,.val tI,.val tI,.val tI,.val (.clo 20 .unit)],[],fun x=>yw x.1 x.2.1 x.2.2.1 x.2.2.2.1 x.2.2.2.2.1⟩
noncomputable def vq:Cx:=⟨tpr,[(202,kj)],[]⟩
theorem vz:FB 159 lJ:=fbk vq tv none (by intro x;kernel_rfl) (cz sM (.nil _)) Tryz.func159
def jx:List (Nat×Ann):=[(3,⟨[(0,.rowR 10250000),(1,.val tI),(4,.val (.clo 20 .unit)),(10,.val tI),(11,.val tI)],[],[.rowC 10250000 35 aq],aI _⟩),
 (9,⟨[(0,.rowR 10250000),(10,.val tI),(13,.val tI)],[],[.rowC 10250000 35 aq],aI _⟩),
 (15,⟨[(0,.rowR 10250000),(2,.val tI),(4,.val (.clo 20 .unit)),(14,.val tI),(15,.val tI)],[],[.rowC 10250000 35 aq],aI _⟩),
 (21,⟨[(0,.rowR 10250000),(14,.val tI),(17,.val tI)],[],[.rowC 10250000 35 aq],aI _⟩),
 (33,⟨[(0,.rowR 10250000),(1,.val tI),(2,.val tI),(3,.val tI),(4,.val (.clo 20 .unit)),(18,.val tI),(19,.val tI),(20,.val tI),(21,.val tI),(22,.val tI)],[],[.rowC 10250000 35 aq],aI _⟩),
 (100030,⟨[(0,.rowR 10250000),(1,.val tI),(2,.val tI),(3,.val tI),(4,.val (.clo 20 .unit)),(18,.val tI),(19,.val tI),(20,.val tI),(21,.val tI)],[],[.rowC 10250000 35 aq],fun _=>0⟩),
 (100040,⟨[(0,.rowR 10250000),(1,.val tI),(3,.val tI),(4,.val (.clo 20 .unit)),(18,.val tI),(20,.val tI),(24,.val tI)],[],[.rowC 10250000 35 aq],fun _=>0⟩),
 (100042,⟨[(0,.rowR 10250000),(3,.val tI),(4,.val (.clo 20 .unit)),(18,.val tI),(24,.val tI)],[],[.rowC 10250000 35 aq],fun _=>0⟩),
 (200003,⟨[(0,.rowR 10250000),(1,.val tI),(10,.val tI)],[],[.rowC 10250000 35 aq],fun _=>0⟩),
 (200009,⟨[],[],[.rowC 10250000 35 aq],fun _=>0⟩),
 (200015,⟨[(0,.rowR 10250000),(2,.val tI),(14,.val tI)],[],[.rowC 10250000 35 aq],fun _=>0⟩),
 (200021,⟨[],[],[.rowC 10250000 35 aq],fun _=>0⟩),
 (200033,⟨[(0,.rowR 10250000),(1,.val tI),(2,.val tI),(3,.val tI),(4,.val (.clo 20 .unit)),(18,.val tI),(19,.val tI),(20,.val tI)],[],[.rowC 10250000 35 aq],fun _=>0⟩)]
def bH:List PM:=[.mrow 35 aq,.val tI,.val tI,.val tI,.val (.clo 20 .unit)]
def bW:List RM:=[]
noncomputable def ki:List (Nat×aA):=[(20,vJ),(159,lJ)]
def kK:aA:=⟨bH,bW,fun x=>wM x.1 x.2.1 x.2.2.1 x.2.2.2.1 x.2.2.2.2.1⟩
theorem sK:∀ (self:dn bH->Option (cF bH bW)) (x:dn bH),Ih ⟨tpr,(106,⟨bH,bW,self⟩)::ki,[]⟩ jx none Tryz.f106 ⟨bH,bW,fun x=>dR self x.1 x.2.1 x.2.2.1 x.2.2.2.1 x.2.2.2.2.1⟩ x=dR self x.1 x.2.1 x.2.2.1 x.2.2.2.1 x.2.2.2.2.1:=by intro self x;kernel_rfl
theorem kz:cH tpr 106:=dh Tryz.func106 rfl (by decide)
theorem tK:cQ tpr 106 kK:=De (ps:=bH) (rs:=bW) (m:=fun n x=>nL (fun self x=>dR self x.1 x.2.1 x.2.2.1 x.2.2.2.1 x.2.2.2.2.1) n x) (Br (P:=Tryz.prog) (specs:=ki) (ps:=bH) (rs:=bW) (cz Ca (cz vz (.nil _))) (by kernel_rfl) (fun self x=>dR self x.1 x.2.1 x.2.2.1 x.2.2.2.1 x.2.2.2.2.1) jx none (by kernel_rfl) kz sK) (fun x=>sr x.1 x.2.1 x.2.2.1 x.2.2.2.1 x.2.2.2.2.1)
def tw:List (Nat×Ann):=[(2,⟨[(0,.rowR 10250000),(1,.val tI),(2,.val (.clo 20 .unit)),(6,.val tI),(7,.val tI),(8,.val tI)],[],[.rowC 10250000 35 aq],aI _⟩),
 (7,⟨[(0,.rowR 10250000),(1,.val tI),(2,.val (.clo 20 .unit)),(6,.val tI)],[],[.rowC 10250000 35 aq],aI _⟩),
 (9,⟨[(0,.rowR 10250000),(1,.val tI),(2,.val (.clo 20 .unit)),(6,.val tI),(7,.val tI),(8,.val tI)],[],[.rowC 10250000 35 aq],aI _⟩),
 (200002,⟨[(0,.rowR 10250000),(1,.val tI),(2,.val (.clo 20 .unit)),(6,.val tI),(7,.val tI)],[],[.rowC 10250000 35 aq],fun _=>0⟩),
 (200007,⟨[],[],[.rowC 10250000 35 aq],fun _=>0⟩),
 (200009,⟨[(0,.rowR 10250000),(1,.val tI),(2,.val (.clo 20 .unit)),(6,.val tI),(7,.val tI)],[],[.rowC 10250000 35 aq],fun _=>0⟩)]
def lK:aA:=⟨[.mrow 35 aq,.val tI,.val (.clo 20 .unit)],[],fun x=>yx x.1 x.2.1 x.2.2.1⟩
noncomputable def vr:Cx:=⟨tpr,[(105,iV),(106,kK)],[]⟩
theorem vA:FB 54 lK:=fbk vr tw none (by intro x;kernel_rfl) (cz qa (.cons tK kz (.nil _))) Tryz.func54
def kU:aA:=⟨[.mrow 35 aq,.val (.clo 20 .unit)],[],fun x=>gX x.1 x.2.1⟩
noncomputable def uH:Cx:=⟨tpr,[(54,lK)],[]⟩
theorem uK:FB 19 kU:=fbk uH [] none (by intro x;kernel_rfl) (cz vA (.nil _)) Tryz.func19
def Ln:List (Nat×Ann):=[(6,⟨[(1,.val (.slice aO)),(2,.ref 2 0),(6,.ref 6 0),(8,.own 35 aq),(27,.val (.slice bh)),(28,.val tI),(29,.val tI)],[(2,[.val .str,.val .str,.val tI,.val (.slice bh)]),(6,[.ref 20 0]),(20,IW)],[],aI _⟩),
 (13,⟨[(6,.ref 6 0),(8,.own 35 aq),(57,.val (.slice aO)),(58,.val tI),(59,.val tI)],[(6,[.ref 20 0]),(20,IW)],[],aI _⟩),
 (200006,⟨[(1,.val (.slice aO)),(6,.ref 6 0),(8,.own 35 aq)],[(6,[.ref 20 0]),(20,IW)],[],fun _=>0⟩),
 (200013,⟨[(8,.own 35 aq)],[],[],fun _=>0⟩)]
def ET:aA:=⟨[.val bY,.val (.slice aO)],[.val (.slice aq),.val tI],fun x=>ya x.1 x.2.1⟩
noncomputable def OC:Cx:=⟨tpr,[(13,sB),(13,vK),(14,Aw),(15,me),(16,sD),(18,wB),(19,kU)],[]⟩
theorem ON:FB 4 ET:=fbk OC Ln none (by intro x;kernel_rfl) (cz AM (cz Cb (cz FR (.cons q9 lY (cz Cw (cz Fb (cz uK (.nil _)))))))) Tryz.func4
def SS:List (Nat×Ann):=[(4,⟨[(0,.val .str),(23,.val tI),(24,.val tI)],[],[],aI _⟩),
 (200004,⟨[],[],[],fun _=>0⟩)]
def NH:aA:=⟨[.val .str],[.val .bool],fun x=>Nn x.1⟩
noncomputable def Ww:Cx:=⟨tpr,[],[]⟩
theorem WR:FB 119 NH:=fbk Ww SS none (by intro x;kernel_rfl) (.nil _) Tryz.func119
def GJ:aA:=⟨[.val .str],[.val .bool],fun x=>sU x.1⟩
noncomputable def Wt:Cx:=⟨tpr,[(119,NH)],[]⟩
theorem MI:FB 69 GJ:=fbk Wt [] none (by intro x;kernel_rfl) (cz WR (.nil _)) Tryz.func69
def xB:aA:=⟨[.val tI,.val tI,.val tI],[.val .bool],fun x=>sW x.1 x.2.1 x.2.2.1⟩
noncomputable def Wy:Cx:=⟨tpr,[],[]⟩
theorem Bp:FB 166 xB:=fbk Wy [] none (by intro x;kernel_rfl) (.nil _) Tryz.func166
def Pv:aA:=⟨[.val tI],[.val .bool],fun x=>QB x.1⟩
noncomputable def Yh:Cx:=⟨tpr,[(166,xB)],[]⟩
theorem Yr:FB 160 Pv:=fbk Yh [] none (by intro x;kernel_rfl) (cz Bp (.nil _)) Tryz.func160
def Pp:aA:=⟨[.val tI],[.val .bool],fun x=>KK x.1⟩
noncomputable def Yc:Cx:=⟨tpr,[(160,Pv)],[]⟩
theorem Yn:FB 108 Pp:=fbk Yc [] none (by intro x;kernel_rfl) (cz Yr (.nil _)) Tryz.func108
def NG:aA:=⟨[.val tI],[.val .bool],fun x=>Nl x.1⟩
noncomputable def Wv:Cx:=⟨tpr,[(166,xB)],[]⟩
theorem WQ:FB 117 NG:=fbk Wv [] none (by intro x;kernel_rfl) (cz Bp (.nil _)) Tryz.func117
def PL:List (Nat×Ann):=[(4,⟨[(0,.val .str),(7,.val tI),(8,.val tI)],[],[],aI _⟩),
 (200004,⟨[],[],[],fun _=>0⟩)]
def JD:aA:=⟨[.val .str],[.val .bool],fun x=>nT x.1⟩
noncomputable def Tf:Cx:=⟨tpr,[],[]⟩
theorem Tt:FB 167 JD:=fbk Tf PL none (by intro x;kernel_rfl) (.nil _) Tryz.func167
def SU:List (Nat×Ann):=[(3,⟨[(0,.val .str),(3,.val tI),(7,.val tI),(8,.val tI)],[],[],aI _⟩),
 (200003,⟨[(3,.val tI)],[],[],fun _=>0⟩)]
def NI:aA:=⟨[.val .str],[.val .bool],fun x=>sV x.1⟩
noncomputable def Wx:Cx:=⟨tpr,[],[]⟩
theorem WS:FB 168 NI:=fbk Wx SU none (by intro x;kernel_rfl) (.nil _) Tryz.func168
def JE:aA:=⟨[.val tI,.val .str],[.val .bool],fun x=>Iz x.1 x.2.1⟩
noncomputable def Tg:Cx:=⟨tpr,[(166,xB),(167,JD),(168,NI),(169,HQ),(170,HR),(171,NJ),(172,JF)],[]⟩
theorem Tu:FB 118 JE:=fbk Tg [] none (by intro x;kernel_rfl) (cz Bp (cz Tt (cz WS (.cons R4 RG (.cons R5 RH (.cons Xp W6 (.cons TO TB (.nil _)))))))) Tryz.func118
def JC:aA:=⟨[.val tI,.val .str],[.val .bool,.val tI],fun x=>Iw x.1 x.2.1⟩
noncomputable def Te:Cx:=⟨tpr,[(117,NG),(118,JE)],[]⟩
theorem Tr:FB 68 JC:=fbk Te [] none (by intro x;kernel_rfl) (cz WQ (cz Tu (.nil _))) Tryz.func68
def CX:aA:=⟨[.val .str],[.val .bool],fun x=>zf x.1⟩
noncomputable def Tc:Cx:=⟨tpr,[(68,JC)],[]⟩
theorem I8:FB 32 CX:=fbk Tc [] none (by intro x;kernel_rfl) (cz Tr (.nil _)) Tryz.func32
def Ea:aA:=⟨[.val bN],[.val tI],fun x=>qO x.1⟩
noncomputable def Mv:Cx:=⟨tpr,[(166,xB)],[]⟩
theorem MG:FB 120 Ea:=fbk Mv [] none (by intro x;kernel_rfl) (cz Bp (.nil _)) Tryz.func120
def ZD:List (Nat×Ann):=[(2,⟨[(0,.val tI),(2,.ref 2 0),(3,.ref 3 0)],[(2,gj),(3,gj)],[],aI _⟩),
 (200002,⟨[(2,.ref 2 0),(3,.ref 3 0)],[(2,gj),(3,gj)],[],fun _=>0⟩)]
def CY:aA:=⟨[.val tI],[.val aC],fun x=>BN x.1⟩
noncomputable def acf:Cx:=⟨tpr,[],[]⟩
theorem FW:FB 111 CY:=fbk acf ZD none (by intro x;kernel_rfl) (.nil _) Tryz.func111
def QY:List (Nat×Ann):=[(1,⟨[(1,.ref 1 0),(2,.ref 2 0)],[(1,nZ),(2,gj)],[],aI _⟩),
 (200001,⟨[(1,.ref 1 0),(2,.ref 2 0)],[(1,nZ),(2,gj)],[],fun _=>0⟩)]
def zZ:aA:=⟨[.val aC],[.val aC],fun x=>nK x.1⟩
noncomputable def Vo:Cx:=⟨tpr,[],[]⟩
theorem Ep:FB 124 zZ:=fbk Vo QY none (by intro x;kernel_rfl) (.nil _) Tryz.func124
def QX:List (Nat×Ann):=[(3,⟨[(3,.ref 3 0),(4,.ref 4 0),(5,.ref 5 0),(27,.val (.slice tI)),(28,.val tI),(29,.val tI)],[(3,nZ),(4,gj),(5,IV)],[.rowC 24 3 tI],aI _⟩),
 (6,⟨[(3,.ref 3 0),(4,.ref 4 0),(5,.ref 5 0),(6,.val tI),(7,.val tI),(27,.val (.slice tI)),(28,.val tI),(29,.val tI),(35,.val (.slice tI)),(36,.val tI),(37,.val tI)],[(3,nZ),(4,gj),(5,IV)],[.rowC 24 3 tI],aI _⟩),
 (14,⟨[(4,.ref 4 0),(5,.ref 5 0),(86,.val tI),(87,.val tI)],[(4,gj),(5,IV)],[.rowC 24 3 tI],aI _⟩),
 (200003,⟨[(4,.ref 4 0),(5,.ref 5 0)],[(4,gj),(5,IV)],[.rowC 24 3 tI],fun _=>0⟩),
 (200006,⟨[(3,.ref 3 0),(4,.ref 4 0),(5,.ref 5 0),(27,.val (.slice tI)),(28,.val tI),(29,.val tI)],[(3,nZ),(4,gj),(5,IV)],[.rowC 24 3 tI],fun _=>0⟩),
 (200014,⟨[(4,.ref 4 0),(5,.ref 5 0)],[(4,gj),(5,IV)],[.rowC 24 3 tI],fun _=>0⟩)]
def zY:aA:=⟨[.val aC,.val aC],[.val aC],fun x=>qP x.1 x.2.1⟩
noncomputable def Vn:Cx:=⟨tpr,[(124,zZ)],[]⟩
theorem Eo:FB 125 zY:=fbk Vn QX none (by intro x;kernel_rfl) (cz Ep (.nil _)) Tryz.func125
def U9:List (Nat×Ann):=[(3,⟨[(2,.ref 2 0),(3,.ref 3 0),(5,.val tI),(6,.val tI)],[(2,gj),(3,nZ)],[],aI _⟩),
 (200003,⟨[(2,.ref 2 0),(3,.ref 3 0)],[(2,gj),(3,nZ)],[],fun _=>0⟩)]
def Pq:aA:=⟨[.val tI],[.val aC],fun x=>Gs x.1⟩
noncomputable def Ye:Cx:=⟨tpr,[(111,CY),(125,zY)],[]⟩
theorem Yo:FB 126 Pq:=fbk Ye U9 none (by intro x;kernel_rfl) (cz FW (cz Eo (.nil _))) Tryz.func126
def QI:aA:=⟨[.val bN,.val tI],[.val aC],fun x=>Dm x.1 x.2.1⟩
noncomputable def ace:Cx:=⟨tpr,[(111,CY),(125,zY),(126,Pq)],[]⟩
theorem WM:FB 73 QI:=fbk ace [] none (by intro x;kernel_rfl) (cz FW (cz Eo (cz Yo (.nil _)))) Tryz.func73
def zq:aA:=⟨[.val aC],[.val aC],fun x=>An x.1⟩
noncomputable def Yd:Cx:=⟨tpr,[],[]⟩
theorem Dd:FB 42 zq:=fbk Yd [] none (by intro x;kernel_rfl) (.nil _) Tryz.func42
def Vb:List (Nat×Ann):=[(4,⟨[(0,.val (.slice tI)),(1,.val (.slice tI)),(5,.val tI)],[],[],aI _⟩),
 (200004,⟨[],[],[],fun _=>0⟩)]
def IE:aA:=⟨[.val (.slice tI),.val (.slice tI)],[.val tI],fun x=>CR x.1 x.2.1⟩
noncomputable def Yi:Cx:=⟨tpr,[],[]⟩
theorem O7:FB 122 IE:=fbk Yi Vb none (by intro x;kernel_rfl) (.nil _) Tryz.func122
def Pu:aA:=⟨[.val (.slice tI),.val tI],[.val tI],fun x=>CP x.1 x.2.1⟩
noncomputable def Yg:Cx:=⟨tpr,[],[]⟩
theorem Yq:FB 123 Pu:=fbk Yg [] none (by intro x;kernel_rfl) (.nil _) Tryz.func123
def V5:List (Nat×Ann):=[(7,⟨[(2,.ref 2 0),(3,.ref 3 0),(4,.ref 4 0),(5,.ref 5 0),(6,.val tI),(31,.val tI),(32,.val tI)],[(2,nZ),(3,nZ),(4,gj),(5,gj)],[],aI _⟩),
 (19,⟨[(2,.ref 2 0),(3,.ref 3 0),(4,.ref 4 0),(9,.ref 9 0),(10,.val tI),(70,.val tI),(71,.val tI)],[(2,nZ),(3,nZ),(4,gj),(9,gj)],[],aI _⟩),
 (100003,⟨[(2,.ref 2 0),(3,.ref 3 0),(4,.ref 4 0)],[(2,nZ),(3,nZ),(4,gj)],[],fun _=>0⟩),
 (100012,⟨[(2,.ref 2 0),(3,.ref 3 0),(4,.ref 4 0),(5,.ref 5 0),(6,.val tI),(8,.val tI),(31,.val tI),(32,.val tI)],[(2,nZ),(3,nZ),(4,gj),(5,gj)],[],fun _=>0⟩),
 (200007,⟨[(4,.ref 4 0),(5,.ref 5 0)],[(4,gj),(5,gj)],[],fun _=>0⟩),
 (200019,⟨[(4,.ref 4 0),(9,.ref 9 0)],[(4,gj),(9,gj)],[],fun _=>0⟩)]
def Fo:aA:=⟨[.val aC,.val aC],[.val aC],fun x=>ym x.1 x.2.1⟩
noncomputable def ZJ:Cx:=⟨tpr,[(122,IE),(123,Pu),(124,zZ)],[]⟩
theorem Ki:FB 72 Fo:=fbk ZJ V5 none (by intro x;kernel_rfl) (cz O7 (cz Yq (cz Ep (.nil _)))) Tryz.func72
def Fp:aA:=⟨[.val aC],[.val tI],fun x=>CO x.1⟩
noncomputable def ZK:Cx:=⟨tpr,[],[]⟩
theorem Kj:FB 71 Fp:=fbk ZK [] none (by intro x;kernel_rfl) (.nil _) Tryz.func71
def HP:aA:=⟨[.val aC,.val aC],[.val tI],fun x=>Gn x.1 x.2.1⟩
noncomputable def aaW:Cx:=⟨tpr,[(42,zq),(71,Fp),(72,Fo)],[]⟩
theorem MH:FB 34 HP:=fbk aaW [] none (by intro x;kernel_rfl) (cz Dd (cz Kj (cz Ki (.nil _)))) Tryz.func34
def Ss:aA:=⟨[.val bN,.val bN],[.val tI],fun x=>Oh x.1 x.2.1⟩
noncomputable def ZI:Cx:=⟨tpr,[(34,HP),(73,QI)],[]⟩
theorem ZO:FB 121 Ss:=fbk ZI [] none (by intro x;kernel_rfl) (cz MH (cz WM (.nil _))) Tryz.func121
def EF:aA:=⟨[.val bN,.val .bool],[.val .bool],fun x=>nJ x.1 x.2.1⟩
noncomputable def Vl:Cx:=⟨tpr,[(120,Ea),(121,Ss)],[]⟩
theorem K7:FB 70 EF:=fbk Vl [] none (by intro x;kernel_rfl) (cz MG (cz ZO (.nil _))) Tryz.func70
def IN:List (Nat×Ann):=[(2,⟨[(22,.val (.slice tI)),(23,.val tI),(24,.val tI)],[],[],aI _⟩),
 (200002,⟨[],[],[],fun _=>0⟩)]
def lI:aA:=⟨[.val ah,.val ah],[.val tI],fun x=>eV x.1 x.2.1⟩
noncomputable def LA:Cx:=⟨tpr,[(22,gY)],[]⟩
theorem oF:FB 60 lI:=fbk LA IN none (by intro x;kernel_rfl) (.cons mo mj (.nil _)) Tryz.func60
end Go.Proofs.SeatU
end
