/-
  Each function that the law reaches is as its plain model says, a further part. No condition.
-/
import Derived.Test.YtekilbogbgmbbaaGreatDoorYw
set_option maxRecDepth 100000
noncomputable section
namespace Go.Proofs.SeatA
open Go.Dn Go.Md Go.Proofs
def eX:List CK:=[.val .bool,.own 3 tI]
def Ej:List CK:=[.val .bool,.rowR 24]
def lf:List CK:=[.val .bool,.val (.slice tI)]
def Yn:List CK:=[.val .str,.val .str,.val .str,.val tI,.val tI,.val (.slice aJ),.val (.slice aq),.mapR 10,.own 114 au,.own 44 bL,.val tI]
def nU:List CK:=[.val .str,.val .str,.val .str,.val tI,.val tI,.val (.slice aJ)]
def Bg:List CK:=[.val tI,.val .str,.val tI,.val tI,.val .str,.val tI,.val tI,.val tI]
def OO:List (Nat×Ann):=[(4,⟨[(0,.val .str),(23,.val tI),(24,.val tI)],[],[],bg _⟩),
 (200004,⟨[],[],[],fun _=>0⟩)]
def Jk:av:=⟨[.val .str],[.val .bool],fun x=>I9 x.1⟩
noncomputable def S8:Cx:=⟨tpr,[],[]⟩
theorem To:FB 76 Jk:=fbk S8 OO none (by intro x;kernel_rfl) (.nil _) Tryz.func76
def xg:av:=⟨[.val .str],[.val .bool],fun x=>kT x.1⟩
noncomputable def S6:Cx:=⟨tpr,[(76,Jk)],[]⟩
theorem Bw:FB 47 xg:=fbk S6 [] none (by intro x;kernel_rfl) (cz To (.nil _)) Tryz.func47
def Cd:av:=⟨[.val tI,.val tI,.val tI],[.val .bool],fun x=>vD x.1 x.2.1 x.2.2.1⟩
noncomputable def S9:Cx:=⟨tpr,[],[]⟩
theorem Iq:FB 131 Cd:=fbk S9 [] none (by intro x;kernel_rfl) (.nil _) Tryz.func131
def Lg:av:=⟨[.val tI],[.val .bool],fun x=>Ms x.1⟩
noncomputable def UK:Cx:=⟨tpr,[(131,Cd)],[]⟩
theorem UZ:FB 77 Lg:=fbk UK [] none (by intro x;kernel_rfl) (cz Iq (.nil _)) Tryz.func77
def yP:av:=⟨[.val tI],[.val .bool],fun x=>x7 x.1⟩
noncomputable def UG:Cx:=⟨tpr,[(77,Lg)],[]⟩
theorem DE:FB 48 yP:=fbk UG [] none (by intro x;kernel_rfl) (cz UZ (.nil _)) Tryz.func48
def OU:List (Nat×Ann):=[(300001,⟨[(6,.val .bool)],[],[],fun _=>0⟩)]
def lG:av:=⟨[.val tI,.val tI,.val tI],[.val .bool],fun x=>iN x.1 x.2.1 x.2.2.1⟩
noncomputable def Te:Cx:=⟨tpr,[],[]⟩
theorem nX:FB 35 lG:=fbk Te OU none (by intro x;kernel_rfl) (.nil _) Tryz.func35
def rT:av:=⟨[.val au],[.val tI],fun x=>jM x.1⟩
noncomputable def Ia:Cx:=⟨tpr,[(131,Cd)],[]⟩
theorem zf:FB 132 rT:=fbk Ia [] none (by intro x;kernel_rfl) (cz Iq (.nil _)) Tryz.func132
def D9:av:=⟨[.val tI],[.val au],fun x=>x9 x.1⟩
noncomputable def UP:Cx:=⟨tpr,[],[]⟩
theorem KL:FB 133 D9:=fbk UP [] none (by intro x;kernel_rfl) (.nil _) Tryz.func133
def Wq:List (Nat×Ann):=[(2,⟨[(0,.val tI),(2,.ref 2 0),(3,.ref 3 0)],[(2,eX),(3,eX)],[],bg _⟩),
 (200002,⟨[(2,.ref 2 0),(3,.ref 3 0)],[(2,eX),(3,eX)],[],fun _=>0⟩)]
def My:av:=⟨[.val tI],[.val bw],fun x=>JV x.1⟩
noncomputable def ZV:Cx:=⟨tpr,[],[]⟩
theorem Tn:FB 138 My:=fbk ZV Wq none (by intro x;kernel_rfl) (.nil _) Tryz.func138
def ML:List (Nat×Ann):=[(1,⟨[(1,.ref 1 0),(2,.ref 2 0)],[(1,lf),(2,eX)],[],bg _⟩),
 (200001,⟨[(1,.ref 1 0),(2,.ref 2 0)],[(1,lf),(2,eX)],[],fun _=>0⟩)]
def Aa:av:=⟨[.val bw],[.val bw],fun x=>mU x.1⟩
noncomputable def Rx:Cx:=⟨tpr,[],[]⟩
theorem GG:FB 164 Aa:=fbk Rx ML none (by intro x;kernel_rfl) (.nil _) Tryz.func164
def MK:List (Nat×Ann):=[(3,⟨[(3,.ref 3 0),(4,.ref 4 0),(5,.ref 5 0),(27,.val (.slice tI)),(28,.val tI),(29,.val tI)],[(3,lf),(4,eX),(5,Ej)],[.rowC 24 3 tI],bg _⟩),
 (6,⟨[(3,.ref 3 0),(4,.ref 4 0),(5,.ref 5 0),(6,.val tI),(7,.val tI),(27,.val (.slice tI)),(28,.val tI),(29,.val tI),(35,.val (.slice tI)),(36,.val tI),(37,.val tI)],[(3,lf),(4,eX),(5,Ej)],[.rowC 24 3 tI],bg _⟩),
 (14,⟨[(4,.ref 4 0),(5,.ref 5 0),(86,.val tI),(87,.val tI)],[(4,eX),(5,Ej)],[.rowC 24 3 tI],bg _⟩),
 (200003,⟨[(4,.ref 4 0),(5,.ref 5 0)],[(4,eX),(5,Ej)],[.rowC 24 3 tI],fun _=>0⟩),
 (200006,⟨[(3,.ref 3 0),(4,.ref 4 0),(5,.ref 5 0),(27,.val (.slice tI)),(28,.val tI),(29,.val tI)],[(3,lf),(4,eX),(5,Ej)],[.rowC 24 3 tI],fun _=>0⟩),
 (200014,⟨[(4,.ref 4 0),(5,.ref 5 0)],[(4,eX),(5,Ej)],[.rowC 24 3 tI],fun _=>0⟩)]
def z8:av:=⟨[.val bw,.val bw],[.val bw],fun x=>sQ x.1 x.2.1⟩
noncomputable def Rw:Cx:=⟨tpr,[(164,Aa)],[]⟩
theorem GF:FB 137 z8:=fbk Rw MK none (by intro x;kernel_rfl) (cz GG (.nil _)) Tryz.func137
def Ri:List (Nat×Ann):=[(3,⟨[(2,.ref 2 0),(3,.ref 3 0),(5,.val tI),(6,.val tI)],[(2,eX),(3,lf)],[],bg _⟩),
 (200003,⟨[(2,.ref 2 0),(3,.ref 3 0)],[(2,eX),(3,lf)],[],fun _=>0⟩)]
def Ld:av:=⟨[.val tI],[.val bw],fun x=>Gp x.1⟩
noncomputable def UI:Cx:=⟨tpr,[(137,z8),(138,My)],[]⟩
theorem UX:FB 139 Ld:=fbk UI Ri none (by intro x;kernel_rfl) (cz GF (cz Tn (.nil _))) Tryz.func139
def Ui:av:=⟨[.val au,.val tI],[.val bw],fun x=>AF x.1 x.2.1⟩
noncomputable def ZU:Cx:=⟨tpr,[(137,z8),(138,My),(139,Ld)],[]⟩
theorem Z7:FB 81 Ui:=fbk ZU [] none (by intro x;kernel_rfl) (cz GF (cz Tn (cz UX (.nil _)))) Tryz.func81
def Lc:av:=⟨[.val bw],[.val bw],fun x=>Gm x.1⟩
noncomputable def UH:Cx:=⟨tpr,[],[]⟩
theorem UW:FB 136 Lc:=fbk UH [] none (by intro x;kernel_rfl) (.nil _) Tryz.func136
def Rj:List (Nat×Ann):=[(4,⟨[(0,.val (.slice tI)),(1,.val (.slice tI)),(5,.val tI)],[],[],bg _⟩),
 (200004,⟨[],[],[],fun _=>0⟩)]
def Lh:av:=⟨[.val (.slice tI),.val (.slice tI)],[.val tI],fun x=>Gq x.1 x.2.1⟩
noncomputable def UL:Cx:=⟨tpr,[],[]⟩
theorem U6:FB 162 Lh:=fbk UL Rj none (by intro x;kernel_rfl) (.nil _) Tryz.func162
def Lf:av:=⟨[.val (.slice tI),.val tI],[.val tI],fun x=>x8 x.1 x.2.1⟩
noncomputable def UJ:Cx:=⟨tpr,[],[]⟩
theorem UY:FB 163 Lf:=fbk UJ [] none (by intro x;kernel_rfl) (.nil _) Tryz.func163
def SF:List (Nat×Ann):=[(7,⟨[(2,.ref 2 0),(3,.ref 3 0),(4,.ref 4 0),(5,.ref 5 0),(6,.val tI),(31,.val tI),(32,.val tI)],[(2,lf),(3,lf),(4,eX),(5,eX)],[],bg _⟩),
 (19,⟨[(2,.ref 2 0),(3,.ref 3 0),(4,.ref 4 0),(9,.ref 9 0),(10,.val tI),(70,.val tI),(71,.val tI)],[(2,lf),(3,lf),(4,eX),(9,eX)],[],bg _⟩),
 (100003,⟨[(2,.ref 2 0),(3,.ref 3 0),(4,.ref 4 0)],[(2,lf),(3,lf),(4,eX)],[],fun _=>0⟩),
 (100012,⟨[(2,.ref 2 0),(3,.ref 3 0),(4,.ref 4 0),(5,.ref 5 0),(6,.val tI),(8,.val tI),(31,.val tI),(32,.val tI)],[(2,lf),(3,lf),(4,eX),(5,eX)],[],fun _=>0⟩),
 (200007,⟨[(4,.ref 4 0),(5,.ref 5 0)],[(4,eX),(5,eX)],[],fun _=>0⟩),
 (200019,⟨[(4,.ref 4 0),(9,.ref 9 0)],[(4,eX),(9,eX)],[],fun _=>0⟩)]
def Ox:av:=⟨[.val bw,.val bw],[.val bw],fun x=>JW x.1 x.2.1⟩
noncomputable def WK:Cx:=⟨tpr,[(162,Lh),(163,Lf),(164,Aa)],[]⟩
theorem WT:FB 135 Ox:=fbk WK SF none (by intro x;kernel_rfl) (cz U6 (cz UY (cz GG (.nil _)))) Tryz.func135
def Oy:av:=⟨[.val bw],[.val tI],fun x=>JX x.1⟩
noncomputable def WL:Cx:=⟨tpr,[],[]⟩
theorem WU:FB 134 Oy:=fbk WL [] none (by intro x;kernel_rfl) (.nil _) Tryz.func134
def QZ:av:=⟨[.val bw,.val bw],[.val tI],fun x=>I8 x.1 x.2.1⟩
noncomputable def Yq:Cx:=⟨tpr,[(134,Oy),(135,Ox),(136,Lc)],[]⟩
theorem YB:FB 80 QZ:=fbk Yq [] none (by intro x;kernel_rfl) (cz WU (cz WT (cz UW (.nil _)))) Tryz.func80
def zI:av:=⟨[.val au,.val au],[.val tI],fun x=>mV x.1 x.2.1⟩
noncomputable def Ys:Cx:=⟨tpr,[(80,QZ),(81,Ui)],[]⟩
theorem CD:FB 51 zI:=fbk Ys [] none (by intro x;kernel_rfl) (cz YB (cz Z7 (.nil _))) Tryz.func51
def Ef:List (Nat×Ann):=[(300001,⟨[(32,.val .bool)],[],[],fun _=>0⟩)]
def qz:av:=⟨[.val au,.val .bool],[.val tI],fun x=>lC x.1 x.2.1⟩
noncomputable def Hl:Cx:=⟨tpr,[(51,zI),(132,rT),(133,D9)],[]⟩
theorem xC:FB 78 qz:=fbk Hl Ef none (by intro x;kernel_rfl) (cz CD (cz zf (cz KL (.nil _)))) Tryz.func78
def ve:av:=⟨[.val au],[.val tI],fun x=>pW x.1⟩
noncomputable def LK:Cx:=⟨tpr,[(51,zI),(132,rT),(133,D9)],[]⟩
theorem Bz:FB 79 ve:=fbk LK [] none (by intro x;kernel_rfl) (cz CD (cz zf (cz KL (.nil _)))) Tryz.func79
def Kb:List (Nat×Ann):=[(300004,⟨[(16,.val .bool)],[],[],fun _=>0⟩)]
def C9:av:=⟨[.val aH,.val tI],[.val tI],fun x=>wR x.1 x.2.1⟩
noncomputable def Nf:Cx:=⟨tpr,[(35,lG),(47,xg),(78,qz),(79,ve)],[]⟩
theorem Ny:FB 49 C9:=fbk Nf Kb none (by intro x;kernel_rfl) (cz nX (cz Bw (cz xC (cz Bz (.nil _))))) Tryz.func49
def Hy:List (Nat×Ann):=[(12,⟨[(1,.ref 1 0),(51,.val tI),(52,.val tI)],[(1,nU)],[],bg _⟩),
 (200012,⟨[],[],[],fun _=>0⟩)]
def u9:av:=⟨[.val aH],[.val tI],fun x=>mj x.1⟩
noncomputable def LJ:Cx:=⟨tpr,[(35,lG),(47,xg),(48,yP),(49,C9)],[]⟩
theorem By:FB 20 u9:=fbk LJ Hy none (by intro x;kernel_rfl) (cz nX (cz Bw (cz DE (cz Ny (.nil _))))) Tryz.func20
def Li:av:=⟨[.val aH,.val aH],[.val tI],fun x=>Gr x.1 x.2.1⟩
noncomputable def UO:Cx:=⟨tpr,[],[]⟩
theorem U7:FB 21 Li:=fbk UO [] none (by intro x;kernel_rfl) (.nil _) Tryz.func21
def OR:List (Nat×Ann):=[(2,⟨[(1,.val tI),(4,.ref 4 0),(9,.val (.slice aJ)),(10,.val tI),(11,.val tI)],[(4,Bg)],[],bg _⟩),
 (200002,⟨[(4,.ref 4 0)],[(4,Bg)],[],fun _=>0⟩)]
def Jo:av:=⟨[.val aH,.val tI],[.val aJ,.val .bool],fun x=>zz x.1 x.2.1⟩
noncomputable def Tc:Cx:=⟨tpr,[],[]⟩
theorem Tr:FB 50 Jo:=fbk Tc OR none (by intro x;kernel_rfl) (.nil _) Tryz.func50
def MN:List (Nat×Ann):=[(100010,⟨[(2,.val tI),(7,.ref 7 0),(9,.ref 9 0),(11,.own 33 aq)],[(7,Bg),(9,Bg)],[],fun _=>0⟩),
 (100012,⟨[(2,.val tI),(7,.ref 7 0),(9,.ref 9 0),(11,.own 33 aq)],[(7,Bg),(9,Bg)],[],fun _=>0⟩),
 (300004,⟨[(24,.val .bool)],[],[],fun _=>0⟩),
 (300006,⟨[(35,.val .bool)],[],[],fun _=>0⟩)]
def GX:av:=⟨[.val aH,.val aH,.val tI],[.val (.slice aq)],fun x=>AJ x.1 x.2.1 x.2.2.1⟩
noncomputable def RA:Cx:=⟨tpr,[(50,Jo),(51,zI)],[]⟩
theorem RJ:FB 22 GX:=fbk RA MN none (by intro x;kernel_rfl) (cz Tr (cz CD (.nil _))) Tryz.func22
def EW:av:=⟨[.val tI],[.val .bool],fun x=>yL x.1⟩
noncomputable def O8:Cx:=⟨tpr,[(35,lG)],[]⟩
theorem Ph:FB 52 EW:=fbk O8 [] none (by intro x;kernel_rfl) (cz nX (.nil _)) Tryz.func52
def OS:List (Nat×Ann):=[(100005,⟨[(2,.ref 2 0),(3,.val tI),(7,.val .bool)],[(2,[.val .bool,.val .bool,.val .bool,.val .bool,.val .bool])],[],fun _=>0⟩)]
def Ce:av:=⟨[.val tI],[.val Ea],fun x=>CT x.1⟩
noncomputable def Td:Cx:=⟨tpr,[],[]⟩
theorem Is:FB 82 Ce:=fbk Td OS none (by intro x;kernel_rfl) (.nil _) Tryz.func82
def He:List (Nat×Ann):=[(300002,⟨[(8,.val .bool)],[],[],fun _=>0⟩),
 (300004,⟨[(20,.val .bool)],[],[],fun _=>0⟩),
 (300006,⟨[(29,.val .bool)],[],[],fun _=>0⟩),
 (300008,⟨[(38,.val .bool)],[],[],fun _=>0⟩),
 (300010,⟨[(53,.val .bool)],[],[],fun _=>0⟩),
 (300013,⟨[(114,.val .bool)],[],[],fun _=>0⟩)]
def Aj:av:=⟨[.val aq],[.val tI],fun x=>s6 x.1⟩
noncomputable def Kk:Cx:=⟨tpr,[(35,lG),(47,xg),(48,yP),(78,qz),(79,ve),(82,Ce)],[]⟩
theorem Ks:FB 53 Aj:=fbk Kk He none (by intro x;kernel_rfl) (cz nX (cz Bw (cz DE (cz xC (cz Bz (cz Is (.nil _))))))) Tryz.func53
def Kc:List (Nat×Ann):=[(2,⟨[(22,.rowR 22),(23,.val tI),(24,.val tI)],[],[.rowC 22 3 tI],bg _⟩),
 (200002,⟨[],[],[],fun _=>0⟩)]
def Da:av:=⟨[.val aq,.val aq],[.val tI],fun x=>rL x.1 x.2.1⟩
noncomputable def Ng:Cx:=⟨tpr,[],[]⟩
theorem Nz:FB 54 Da:=fbk Ng Kc none (by intro x;kernel_rfl) (.nil _) Tryz.func54
def OQ:List (Nat×Ann):=[(3,⟨[(1,.val tI),(5,.val tI),(8,.val (.slice aq)),(9,.val tI),(10,.val tI)],[],[],bg _⟩),
 (200003,⟨[(5,.val tI)],[],[],fun _=>0⟩)]
def Jn:av:=⟨[.val (.slice aq),.val tI],[.val tI],fun x=>CO x.1 x.2.1⟩
noncomputable def Tb:Cx:=⟨tpr,[],[]⟩
theorem Tq:FB 55 Jn:=fbk Tb OQ none (by intro x;kernel_rfl) (.nil _) Tryz.func55
def Hw:List (Nat×Ann):=[(4,⟨[(0,.val (.slice aq)),(9,.val (.slice aq)),(10,.val tI),(11,.val tI)],[],[],bg _⟩),
 (200004,⟨[],[],[],fun _=>0⟩),
 (300008,⟨[(21,.val .bool)],[],[],fun _=>0⟩),
 (300019,⟨[(70,.val .bool)],[],[],fun _=>0⟩)]
def u7:av:=⟨[.val (.slice aq)],[.val tI],fun x=>pV x.1⟩
noncomputable def LI:Cx:=⟨tpr,[(35,lG),(48,yP),(52,EW),(53,Aj),(54,Da),(55,Jn)],[]⟩
theorem Bx:FB 23 u7:=fbk LI Hw none (by intro x;kernel_rfl) (cz nX (cz DE (cz Ph (cz Ks (cz Nz (cz Tq (.nil _))))))) Tryz.func23
def MM:List (Nat×Ann):=[(10,⟨[(2,.ref 2 0),(3,.ref 3 0),(46,.val (.slice aJ)),(47,.val tI),(48,.val tI)],[(2,nU),(3,nU)],[],bg _⟩),
 (13,⟨[(2,.ref 2 0),(3,.ref 3 0),(9,.ref 9 0),(46,.val (.slice aJ)),(47,.val tI),(48,.val tI),(53,.val (.slice aJ)),(54,.val tI),(55,.val tI)],[(2,nU),(3,nU),(9,Bg)],[],bg _⟩),
 (23,⟨[(2,.ref 2 0),(3,.ref 3 0),(12,.own 33 aq),(87,.val tI),(88,.val tI)],[(2,nU),(3,nU)],[],bg _⟩),
 (28,⟨[(3,.ref 3 0),(12,.own 33 aq),(99,.val tI),(100,.val tI)],[(3,nU)],[],bg _⟩),
 (200010,⟨[(2,.ref 2 0),(3,.ref 3 0)],[(2,nU),(3,nU)],[],fun _=>0⟩),
 (200013,⟨[(2,.ref 2 0),(3,.ref 3 0),(46,.val (.slice aJ)),(47,.val tI),(48,.val tI)],[(2,nU),(3,nU)],[],fun _=>0⟩),
 (200023,⟨[(3,.ref 3 0),(12,.own 33 aq)],[(3,nU)],[],fun _=>0⟩),
 (200028,⟨[(12,.own 33 aq)],[],[],fun _=>0⟩),
 (300015,⟨[(77,.val .bool)],[],[],fun _=>0⟩)]
def GV:av:=⟨[.val aH,.val aH],[.val (.slice aq),.val tI],fun x=>AH x.1 x.2.1⟩
noncomputable def Ry:Cx:=⟨tpr,[(20,u9),(21,Li),(22,GX),(23,u7)],[]⟩
theorem RH:FB 5 GV:=fbk Ry MM none (by intro x;kernel_rfl) (cz By (cz U7 (cz RJ (cz Bx (.nil _))))) Tryz.func5
def zP:List (Nat×Ann):=[(4,⟨[(0,.val (.slice aq)),(1,.val (.slice aq)),(12,.val tI),(13,.val tI)],[],[],bg _⟩),
 (200004,⟨[],[],[],fun _=>0⟩)]
def rV:av:=⟨[.val (.slice aq),.val (.slice aq)],[.val .bool],fun x=>jP x.1 x.2.1⟩
noncomputable def Bj:Cx:=⟨tpr,[],[]⟩
theorem BA:FB 6 rV:=fbk Bj zP none (by intro x;kernel_rfl) (.nil _) Tryz.func6
def pG:av:=⟨[.val aH,.val (.slice aq)],[.val tI],fun x=>me x.1 x.2.1⟩
noncomputable def LH:Cx:=⟨tpr,[(14,qw),(19,lX)],[]⟩
theorem uR:FB 31 pG:=fbk LH [] none (by intro x;kernel_rfl) (cz qq (cz lQ (.nil _))) Tryz.func31
def k5:av:=⟨[.val au],[.val tI],fun x=>gx x.1⟩
noncomputable def O7:Cx:=⟨tpr,[(94,yc)],[]⟩
theorem nW:FB 64 k5:=fbk O7 [] none (by intro x;kernel_rfl) (cz EB (.nil _)) Tryz.func64
def Dk:List (Nat×Ann):=[(3,⟨[(5,.ref 12 0),(14,.val (.slice aJ)),(15,.val tI),(16,.val tI)],[(12,Yn)],[.mapC 10 tI .hnd,.ar bP],bg _⟩),
 (200003,⟨[(5,.ref 12 0)],[(12,Yn)],[.mapC 10 tI .hnd,.ar bP],fun _=>0⟩)]
def kQ:av:=⟨[.val aH,.val (.slice aq),.ar bP],[.box [.val aH,.val (.slice aq),.map tI .hnd,.row 114 au,.row 44 bL,.val tI]],fun x=>fZ x.1 x.2.1 x.2.2.1⟩
noncomputable def Fo:Cx:=⟨tpr,[(64,k5)],[]⟩
theorem oW:FB 33 kQ:=fbk Fo Dk none (by intro x;kernel_rfl) (cz nW (.nil _)) Tryz.func33
def vI:av:=⟨[.box [.val aH,.val (.slice aq),.map tI .hnd,.row 114 au,.row 44 bL,.val tI],.val tI,.ar bP],[.val tI],fun x=>mM x.1 x.2.1 x.2.2.1⟩
noncomputable def Ep:Cx:=⟨tpr,[],[]⟩
theorem EA:FB 95 vI:=fbk Ep [] none (by intro x;kernel_rfl) (.nil _) Tryz.func95
def Bb:List (Nat×Ann):=[(300002,⟨[(27,.val .bool)],[],[],fun _=>0⟩)]
def ug:av:=⟨[.box [.val aH,.val (.slice aq),.map tI .hnd,.row 114 au,.row 44 bL,.val tI],.val .hnd,.val tI,.ar bP],[.val tI],fun x=>lV x.1 x.2.1 x.2.2.1 x.2.2.2.1⟩
noncomputable def Dv:Cx:=⟨tpr,[],[]⟩
theorem DC:FB 96 ug:=fbk Dv Bb none (by intro x;kernel_rfl) (.nil _) Tryz.func96
def rP:av:=⟨[.box [.val aH,.val (.slice aq),.map tI .hnd,.row 114 au,.row 44 bL,.val tI],.val .hnd,.val aq,.ar bP],[.val tI],fun x=>jG x.1 x.2.1 x.2.2.1 x.2.2.2.1⟩
noncomputable def Bh:Cx:=⟨tpr,[(64,k5)],[]⟩
theorem Bu:FB 97 rP:=fbk Bh [] none (by intro x;kernel_rfl) (cz nW (.nil _)) Tryz.func97
def rS:av:=⟨[.val .hnd,.arR bP],[.val tI],fun x=>jK x.1 x.2.1⟩
noncomputable def H7:Cx:=⟨tpr,[],[]⟩
theorem ze:FB 59 rS:=fbk H7 [] none (by intro x;kernel_rfl) (.nil _) Tryz.func59
def qP:av:=⟨[.box [.val aH,.val (.slice aq),.map tI .hnd,.row 114 au,.row 44 bL,.val tI],.val .hnd,.val aq,.ar bP],[.val tI],fun x=>ji x.1 x.2.1 x.2.2.1 x.2.2.2.1⟩
noncomputable def Aq:Cx:=⟨tpr,[(59,rS),(64,k5)],[]⟩
theorem Au:FB 98 qP:=fbk Aq [] none (by intro x;kernel_rfl) (cz ze (cz nW (.nil _))) Tryz.func98
def uf:av:=⟨[.box [.val aH,.val (.slice aq),.map tI .hnd,.row 114 au,.row 44 bL,.val tI],.val .hnd,.val aq,.ar bP],[.val tI],fun x=>lU x.1 x.2.1 x.2.2.1 x.2.2.2.1⟩
noncomputable def Du:Cx:=⟨tpr,[],[]⟩
theorem DB:FB 99 uf:=fbk Du [] none (by intro x;kernel_rfl) (.nil _) Tryz.func99
def ud:av:=⟨[.box [.val aH,.val (.slice aq),.map tI .hnd,.row 114 au,.row 44 bL,.val tI],.val .hnd,.val aq,.ar bP],[.val tI],fun x=>lT x.1 x.2.1 x.2.2.1 x.2.2.2.1⟩
noncomputable def Dt:Cx:=⟨tpr,[(64,k5)],[]⟩
theorem DA:FB 100 ud:=fbk Dt [] none (by intro x;kernel_rfl) (cz nW (.nil _)) Tryz.func100
end Go.Proofs.SeatA
end
