/-
  Each function that the law reaches is as its plain model says, a further part. No condition.
-/
import Derived.Test.YtokceoajcccdiaaGreatDoorYx
set_option maxRecDepth 100000
noncomputable section
namespace Go.Proofs.SeatU
open Go.Dn Go.Md Go.Proofs
def dS:List CK:=[.val .bool,.own 3 tI]
def ym:List CK:=[.val .bool,.rowR 24]
def iQ:List CK:=[.val .bool,.val (.slice tI)]
def Fv:List CK:=[.val .bool,.val .bool,.val .bool,.val .bool,.val .bool]
def Fw:List CK:=[.val tI,.val tI,.val tI,.val tI,.val tI,.val .str,.val tI,.val tI,.val .str,.val tI,.val tI,.val tI,.val tI]
def wj:aq:=⟨[.val tI,.val tI,.val tI],[.val .bool],fun x=>qy x.1 x.2.1 x.2.2.1⟩
noncomputable def KA:Cx:=⟨tpr,[],[]⟩
theorem BW:FB 72 wj:=fbk KA [] none (by intro x;kernel_rfl) (.nil _) Tryz.func72
def Eo:aq:=⟨[.val tI],[.val .bool],fun x=>E4 x.1⟩
noncomputable def L4:Cx:=⟨tpr,[(72,wj)],[]⟩
theorem Mh:FB 51 Eo:=fbk L4 [] none (by intro x;kernel_rfl) (cz BW (.nil _)) Tryz.func51
def xW:aq:=⟨[.val tI],[.val .bool],fun x=>vR x.1⟩
noncomputable def L0:Cx:=⟨tpr,[(51,Eo)],[]⟩
theorem D3:FB 28 xW:=fbk L0 [] none (by intro x;kernel_rfl) (cz Mh (.nil _)) Tryz.func28
def Hi:List (Nat×Ann):=[(300001,⟨[(6,.val .bool)],[],[],fun _=>0⟩)]
def rD:aq:=⟨[.val tI,.val tI,.val tI],[.val .bool],fun x=>ld x.1 x.2.1 x.2.2.1⟩
noncomputable def KE:Cx:=⟨tpr,[],[]⟩
theorem vJ:FB 29 rD:=fbk KE Hi none (by intro x;kernel_rfl) (.nil _) Tryz.func29
def za:aq:=⟨[.val tI],[.val .bool],fun x=>tw x.1⟩
noncomputable def Hu:Cx:=⟨tpr,[(29,rD)],[]⟩
theorem HO:FB 30 za:=fbk Hu [] none (by intro x;kernel_rfl) (cz vJ (.nil _)) Tryz.func30
def Hh:List (Nat×Ann):=[(100005,⟨[(2,.ref 2 0),(3,.val tI),(7,.val .bool)],[(2,Fv)],[],fun _=>0⟩)]
def wo:aq:=⟨[.val tI],[.val x5],fun x=>cA x.1⟩
noncomputable def KD:Cx:=⟨tpr,[],[]⟩
theorem BX:FB 36 wo:=fbk KD Hh none (by intro x;kernel_rfl) (.nil _) Tryz.func36
def jO:aq:=⟨[.val bA],[.val tI],fun x=>gh x.1⟩
noncomputable def BH:Cx:=⟨tpr,[(72,wj)],[]⟩
theorem mY:FB 73 jO:=fbk BH [] none (by intro x;kernel_rfl) (cz BW (.nil _)) Tryz.func73
def xX:aq:=⟨[.val tI],[.val bA],fun x=>sI x.1⟩
noncomputable def L6:Cx:=⟨tpr,[],[]⟩
theorem D4:FB 75 xX:=fbk L6 [] none (by intro x;kernel_rfl) (.nil _) Tryz.func75
def Nv:List (Nat×Ann):=[(2,⟨[(0,.val tI),(2,.ref 2 0),(3,.ref 3 0)],[(2,dS),(3,dS)],[],bL _⟩),
 (200002,⟨[(2,.ref 2 0),(3,.ref 3 0)],[(2,dS),(3,dS)],[],fun _=>0⟩)]
def E8:aq:=⟨[.val tI],[.val aZ],fun x=>Dp x.1⟩
noncomputable def Qs:Cx:=⟨tpr,[],[]⟩
theorem KQ:FB 135 E8:=fbk Qs Nv none (by intro x;kernel_rfl) (.nil _) Tryz.func135
def Fj:List (Nat×Ann):=[(1,⟨[(1,.ref 1 0),(2,.ref 2 0)],[(1,iQ),(2,dS)],[],bL _⟩),
 (200001,⟨[(1,.ref 1 0),(2,.ref 2 0)],[(1,iQ),(2,dS)],[],fun _=>0⟩)]
def uF:aq:=⟨[.val aZ],[.val aZ],fun x=>jM x.1⟩
noncomputable def Jw:Cx:=⟨tpr,[],[]⟩
theorem AH:FB 161 uF:=fbk Jw Fj none (by intro x;kernel_rfl) (.nil _) Tryz.func161
def Fi:List (Nat×Ann):=[(3,⟨[(3,.ref 3 0),(4,.ref 4 0),(5,.ref 5 0),(27,.val (.slice tI)),(28,.val tI),(29,.val tI)],[(3,iQ),(4,dS),(5,ym)],[.rowC 24 3 tI],bL _⟩),
 (6,⟨[(3,.ref 3 0),(4,.ref 4 0),(5,.ref 5 0),(6,.val tI),(7,.val tI),(27,.val (.slice tI)),(28,.val tI),(29,.val tI),(35,.val (.slice tI)),(36,.val tI),(37,.val tI)],[(3,iQ),(4,dS),(5,ym)],[.rowC 24 3 tI],bL _⟩),
 (14,⟨[(4,.ref 4 0),(5,.ref 5 0),(86,.val tI),(87,.val tI)],[(4,dS),(5,ym)],[.rowC 24 3 tI],bL _⟩),
 (200003,⟨[(4,.ref 4 0),(5,.ref 5 0)],[(4,dS),(5,ym)],[.rowC 24 3 tI],fun _=>0⟩),
 (200006,⟨[(3,.ref 3 0),(4,.ref 4 0),(5,.ref 5 0),(27,.val (.slice tI)),(28,.val tI),(29,.val tI)],[(3,iQ),(4,dS),(5,ym)],[.rowC 24 3 tI],fun _=>0⟩),
 (200014,⟨[(4,.ref 4 0),(5,.ref 5 0)],[(4,dS),(5,ym)],[.rowC 24 3 tI],fun _=>0⟩)]
def uE:aq:=⟨[.val aZ,.val aZ],[.val aZ],fun x=>n6 x.1 x.2.1⟩
noncomputable def Jv:Cx:=⟨tpr,[(161,uF)],[]⟩
theorem AG:FB 134 uE:=fbk Jv Fi none (by intro x;kernel_rfl) (cz AH (.nil _)) Tryz.func134
def Jn:List (Nat×Ann):=[(3,⟨[(2,.ref 2 0),(3,.ref 3 0),(5,.val tI),(6,.val tI)],[(2,dS),(3,iQ)],[],bL _⟩),
 (200003,⟨[(2,.ref 2 0),(3,.ref 3 0)],[(2,dS),(3,iQ)],[],fun _=>0⟩)]
def Em:aq:=⟨[.val tI],[.val aZ],fun x=>Ai x.1⟩
noncomputable def L2:Cx:=⟨tpr,[(134,uE),(135,E8)],[]⟩
theorem Mf:FB 136 Em:=fbk L2 Jn none (by intro x;kernel_rfl) (cz AG (cz KQ (.nil _))) Tryz.func136
def LC:aq:=⟨[.val bA,.val tI],[.val aZ],fun x=>Ag x.1 x.2.1⟩
noncomputable def Qr:Cx:=⟨tpr,[(134,uE),(135,E8),(136,Em)],[]⟩
theorem Qz:FB 101 LC:=fbk Qr [] none (by intro x;kernel_rfl) (cz AG (cz KQ (cz Mf (.nil _)))) Tryz.func101
def El:aq:=⟨[.val aZ],[.val aZ],fun x=>Ah x.1⟩
noncomputable def L1:Cx:=⟨tpr,[],[]⟩
theorem Me:FB 133 El:=fbk L1 [] none (by intro x;kernel_rfl) (.nil _) Tryz.func133
def Jo:List (Nat×Ann):=[(4,⟨[(0,.val (.slice tI)),(1,.val (.slice tI)),(5,.val tI)],[],[],bL _⟩),
 (200004,⟨[],[],[],fun _=>0⟩)]
def Ep:aq:=⟨[.val (.slice tI),.val (.slice tI)],[.val tI],fun x=>Aj x.1 x.2.1⟩
noncomputable def L5:Cx:=⟨tpr,[],[]⟩
theorem Mi:FB 159 Ep:=fbk L5 Jo none (by intro x;kernel_rfl) (.nil _) Tryz.func159
def En:aq:=⟨[.val (.slice tI),.val tI],[.val tI],fun x=>sF x.1 x.2.1⟩
noncomputable def L3:Cx:=⟨tpr,[],[]⟩
theorem Mg:FB 160 En:=fbk L3 [] none (by intro x;kernel_rfl) (.nil _) Tryz.func160
def Kh:List (Nat×Ann):=[(7,⟨[(2,.ref 2 0),(3,.ref 3 0),(4,.ref 4 0),(5,.ref 5 0),(6,.val tI),(31,.val tI),(32,.val tI)],[(2,iQ),(3,iQ),(4,dS),(5,dS)],[],bL _⟩),
 (19,⟨[(2,.ref 2 0),(3,.ref 3 0),(4,.ref 4 0),(9,.ref 9 0),(10,.val tI),(70,.val tI),(71,.val tI)],[(2,iQ),(3,iQ),(4,dS),(9,dS)],[],bL _⟩),
 (100003,⟨[(2,.ref 2 0),(3,.ref 3 0),(4,.ref 4 0)],[(2,iQ),(3,iQ),(4,dS)],[],fun _=>0⟩),
 (100012,⟨[(2,.ref 2 0),(3,.ref 3 0),(4,.ref 4 0),(5,.ref 5 0),(6,.val tI),(8,.val tI),(31,.val tI),(32,.val tI)],[(2,iQ),(3,iQ),(4,dS),(5,dS)],[],fun _=>0⟩),
 (200007,⟨[(4,.ref 4 0),(5,.ref 5 0)],[(4,dS),(5,dS)],[],fun _=>0⟩),
 (200019,⟨[(4,.ref 4 0),(9,.ref 9 0)],[(4,dS),(9,dS)],[],fun _=>0⟩)]
def GG:aq:=⟨[.val aZ,.val aZ],[.val aZ],fun x=>Dq x.1 x.2.1⟩
noncomputable def ND:Cx:=⟨tpr,[(159,Ep),(160,En),(161,uF)],[]⟩
theorem NM:FB 132 GG:=fbk ND Kh none (by intro x;kernel_rfl) (cz Mi (cz Mg (cz AH (.nil _)))) Tryz.func132
def GH:aq:=⟨[.val aZ],[.val tI],fun x=>Dr x.1⟩
noncomputable def NF:Cx:=⟨tpr,[],[]⟩
theorem NN:FB 131 GH:=fbk NF [] none (by intro x;kernel_rfl) (.nil _) Tryz.func131
def Jd:aq:=⟨[.val aZ,.val aZ],[.val tI],fun x=>Cw x.1 x.2.1⟩
noncomputable def OY:Cx:=⟨tpr,[(131,GH),(132,GG),(133,El)],[]⟩
theorem O5:FB 100 Jd:=fbk OY [] none (by intro x;kernel_rfl) (cz NN (cz NM (cz Me (.nil _)))) Tryz.func100
def CN:aq:=⟨[.val bA,.val bA],[.val tI],fun x=>Cz x.1 x.2.1⟩
noncomputable def OZ:Cx:=⟨tpr,[(100,Jd),(101,LC)],[]⟩
theorem IN:FB 74 CN:=fbk OZ [] none (by intro x;kernel_rfl) (cz O5 (cz Qz (.nil _))) Tryz.func74
def ye:List (Nat×Ann):=[(300001,⟨[(32,.val .bool)],[],[],fun _=>0⟩)]
def rV:aq:=⟨[.val bA,.val .bool],[.val tI],fun x=>lN x.1 x.2.1⟩
noncomputable def A6:Cx:=⟨tpr,[(73,jO),(74,CN),(75,xX)],[]⟩
theorem A8:FB 52 rV:=fbk A6 ye none (by intro x;kernel_rfl) (cz mY (cz IN (cz D4 (.nil _)))) Tryz.func52
def wm:aq:=⟨[.val bA],[.val tI],fun x=>pJ x.1⟩
noncomputable def EC:Cx:=⟨tpr,[(73,jO),(74,CN),(75,xX)],[]⟩
theorem EL:FB 53 wm:=fbk EC [] none (by intro x;kernel_rfl) (cz mY (cz IN (cz D4 (.nil _)))) Tryz.func53
def Hf:List (Nat×Ann):=[(4,⟨[(0,.val .str),(23,.val tI),(24,.val tI)],[],[],bL _⟩),
 (200004,⟨[],[],[],fun _=>0⟩)]
def CL:aq:=⟨[.val .str],[.val .bool],fun x=>Cy x.1⟩
noncomputable def Kz:Cx:=⟨tpr,[],[]⟩
theorem KR:FB 76 CL:=fbk Kz Hf none (by intro x;kernel_rfl) (.nil _) Tryz.func76
def CJ:aq:=⟨[.val .str],[.val .bool],fun x=>tY x.1⟩
noncomputable def Ky:Cx:=⟨tpr,[(76,CL)],[]⟩
theorem KP:FB 54 CJ:=fbk Ky [] none (by intro x;kernel_rfl) (cz KR (.nil _)) Tryz.func54
def AZ:List (Nat×Ann):=[(300002,⟨[(8,.val .bool)],[],[],fun _=>0⟩),
 (300004,⟨[(20,.val .bool)],[],[],fun _=>0⟩),
 (300006,⟨[(29,.val .bool)],[],[],fun _=>0⟩),
 (300008,⟨[(38,.val .bool)],[],[],fun _=>0⟩),
 (300010,⟨[(53,.val .bool)],[],[],fun _=>0⟩),
 (300013,⟨[(114,.val .bool)],[],[],fun _=>0⟩)]
def uO:aq:=⟨[.val aH],[.val tI],fun x=>oe x.1⟩
noncomputable def DC:Cx:=⟨tpr,[(28,xW),(29,rD),(36,wo),(52,rV),(53,wm),(54,CJ)],[]⟩
theorem DJ:FB 31 uO:=fbk DC AZ none (by intro x;kernel_rfl) (cz D3 (cz vJ (cz BX (cz A8 (cz EL (cz KP (.nil _))))))) Tryz.func31
def Dx:List (Nat×Ann):=[(2,⟨[(22,.rowR 22),(23,.val tI),(24,.val tI)],[],[.rowC 22 3 tI],bL _⟩),
 (200002,⟨[],[],[],fun _=>0⟩)]
def w9:aq:=⟨[.val aH,.val aH],[.val tI],fun x=>nu x.1 x.2.1⟩
noncomputable def FD:Cx:=⟨tpr,[],[]⟩
theorem FV:FB 32 w9:=fbk FD Dx none (by intro x;kernel_rfl) (.nil _) Tryz.func32
def Hg:List (Nat×Ann):=[(3,⟨[(1,.val tI),(5,.val tI),(8,.val (.slice aH)),(9,.val tI),(10,.val tI)],[],[],bL _⟩),
 (200003,⟨[(5,.val tI)],[],[],fun _=>0⟩)]
def CO:aq:=⟨[.val (.slice aH),.val tI],[.val tI],fun x=>w5 x.1 x.2.1⟩
noncomputable def KC:Cx:=⟨tpr,[],[]⟩
theorem KS:FB 33 CO:=fbk KC Hg none (by intro x;kernel_rfl) (.nil _) Tryz.func33
def Bh:List (Nat×Ann):=[(4,⟨[(0,.val (.slice aH)),(9,.val (.slice aH)),(10,.val tI),(11,.val tI)],[],[],bL _⟩),
 (200004,⟨[],[],[],fun _=>0⟩),
 (300008,⟨[(21,.val .bool)],[],[],fun _=>0⟩),
 (300019,⟨[(70,.val .bool)],[],[],fun _=>0⟩)]
def wk:aq:=⟨[.val (.slice aH)],[.val tI],fun x=>pI x.1⟩
noncomputable def EB:Cx:=⟨tpr,[(28,xW),(29,rD),(30,za),(31,uO),(32,w9),(33,CO)],[]⟩
theorem EK:FB 14 wk:=fbk EB Bh none (by intro x;kernel_rfl) (cz D3 (cz vJ (cz HO (cz DJ (cz FV (cz KS (.nil _))))))) Tryz.func14
def Ki:List (Nat×Ann):=[(100006,⟨[(1,.ref 1 0),(4,.val .str)],[(1,[.val tI,.val tI])],[],fun _=>0⟩)]
def GI:aq:=⟨[.val bA],[.val .str,.val tI],fun x=>Ds x.1⟩
noncomputable def NG:Cx:=⟨tpr,[(22,jP),(73,jO),(81,ko)],[]⟩
theorem NO:FB 57 GI:=fbk NG Ki none (by intro x;kernel_rfl) (.cons qX qN (cz mY (.cons uJ uH (.nil _)))) Tryz.func57
def AQ:aq:=⟨[.val bA],[.val .str],fun x=>lO x.1⟩
noncomputable def Jx:Cx:=⟨tpr,[(57,GI)],[]⟩
theorem JC:FB 37 AQ:=fbk Jx [] none (by intro x;kernel_rfl) (cz NO (.nil _)) Tryz.func37
def Jp:List (Nat×Ann):=[(100003,⟨[(1,.ref 1 0),(3,.val .str)],[(1,Fw)],[],fun _=>0⟩),
 (100009,⟨[(1,.ref 1 0),(4,.own 9 .str),(5,.ref 5 0)],[(1,Fw),(5,Fv)],[],fun _=>0⟩),
 (100011,⟨[(1,.ref 1 0),(4,.own 9 .str),(5,.ref 5 0)],[(1,Fw),(5,Fv)],[],fun _=>0⟩),
 (100013,⟨[(1,.ref 1 0),(4,.own 9 .str),(5,.ref 5 0)],[(1,Fw),(5,Fv)],[],fun _=>0⟩)]
def Er:aq:=⟨[.val aH],[.val (.slice .str)],fun x=>Al x.1⟩
noncomputable def L7:Cx:=⟨tpr,[(22,jP),(35,uh),(36,wo),(37,AQ)],[]⟩
theorem Mj:FB 16 Er:=fbk L7 Jp none (by intro x;kernel_rfl) (.cons qX qN (.cons Cl B3 (cz BX (cz JC (.nil _))))) Tryz.func16
def Kj:List (Nat×Ann):=[(6,⟨[(5,.val .str),(13,.val (.slice aH)),(14,.val tI),(15,.val tI)],[],[],bL _⟩),
 (200006,⟨[(5,.val .str)],[],[],fun _=>0⟩)]
def GJ:aq:=⟨[.val (.slice aH)],[.val .str,.val tI],fun x=>vp x.1⟩
noncomputable def NH:Cx:=⟨tpr,[(14,wk),(15,rG),(16,Er)],[]⟩
theorem NP:FB 5 GJ:=fbk NH Kj none (by intro x;kernel_rfl) (cz EK (.cons w4 wT (cz Mj (.nil _)))) Tryz.func5
end Go.Proofs.SeatU
end
