/-
  Each function that the law reaches is as its plain model says, a further part. No condition.
-/
import Derived.Test.YtjlkkapojeldlabGreatDoorYy
set_option maxRecDepth 100000
noncomputable section
namespace Go.Proofs.SeatU
open Go.Dn Go.Md Go.Proofs
def qF:List CK:=[.val .bool,.own 3 tI]
def zj:List CK:=[.val .bool,.val (.slice tI)]
def we:List CK:=[.val .str,.val .str,.val tI,.val tI,.val tI,.val .bool,.val (.slice bL),.val (.slice b9),.val (.slice aY)]
def K7:an:=⟨[.val (.slice tI),.val tI],[.val tI],fun x=>yb x.1 x.2.1⟩
noncomputable def Ui:Cx:=⟨tpr,[],[]⟩
theorem Uv:FB 202 K7:=fbk Ui [] none (by intro x;kernel_rfl) (.nil _) Tryz.func202
def RR:List (Nat×Ann):=[(7,⟨[(2,.ref 2 0),(3,.ref 3 0),(4,.ref 4 0),(5,.ref 5 0),(6,.val tI),(31,.val tI),(32,.val tI)],[(2,zj),(3,zj),(4,qF),(5,qF)],[],aO _⟩),
 (19,⟨[(2,.ref 2 0),(3,.ref 3 0),(4,.ref 4 0),(9,.ref 9 0),(10,.val tI),(70,.val tI),(71,.val tI)],[(2,zj),(3,zj),(4,qF),(9,qF)],[],aO _⟩),
 (100003,⟨[(2,.ref 2 0),(3,.ref 3 0),(4,.ref 4 0)],[(2,zj),(3,zj),(4,qF)],[],fun _=>0⟩),
 (100012,⟨[(2,.ref 2 0),(3,.ref 3 0),(4,.ref 4 0),(5,.ref 5 0),(6,.val tI),(8,.val tI),(31,.val tI),(32,.val tI)],[(2,zj),(3,zj),(4,qF),(5,qF)],[],fun _=>0⟩),
 (200007,⟨[(4,.ref 4 0),(5,.ref 5 0)],[(4,qF),(5,qF)],[],fun _=>0⟩),
 (200019,⟨[(4,.ref 4 0),(9,.ref 9 0)],[(4,qF),(9,qF)],[],fun _=>0⟩)]
def NU:an:=⟨[.val bq,.val bq],[.val bq],fun x=>JS x.1 x.2.1⟩
noncomputable def Wt:Cx:=⟨tpr,[(201,K9),(202,K7),(203,As)],[]⟩
theorem WG:FB 171 NU:=fbk Wt RR none (by intro x;kernel_rfl) (cz Ux (cz Uv (cz Gr (.nil _)))) Tryz.func171
def NV:an:=⟨[.val bq],[.val tI],fun x=>JT x.1⟩
noncomputable def Wv:Cx:=⟨tpr,[],[]⟩
theorem WH:FB 170 NV:=fbk Wv [] none (by intro x;kernel_rfl) (.nil _) Tryz.func170
def Qz:an:=⟨[.val bq,.val bq],[.val tI],fun x=>ND x.1 x.2.1⟩
noncomputable def Yi:Cx:=⟨tpr,[(170,NV),(171,NU),(172,KZ)],[]⟩
theorem Yr:FB 129 Qz:=fbk Yi [] none (by intro x;kernel_rfl) (cz WH (cz WG (cz Ut (.nil _)))) Tryz.func129
def NT:an:=⟨[.val aS,.val aS],[.val tI],fun x=>Ev x.1 x.2.1⟩
noncomputable def Ws:Cx:=⟨tpr,[(129,Qz),(130,TH)],[]⟩
theorem WE:FB 81 NT:=fbk Ws [] none (by intro x;kernel_rfl) (cz Yr (cz aac (.nil _))) Tryz.func81
def yX:an:=⟨[.val aS,.val tI,.val tI,.val tI],[.val .bool],fun x=>jb x.1 x.2.1 x.2.2.1 x.2.2.2.1⟩
noncomputable def Ue:Cx:=⟨tpr,[(80,mO),(81,NT)],[]⟩
theorem Dm:FB 55 yX:=fbk Ue [] none (by intro x;kernel_rfl) (cz qH (cz WE (.nil _))) Tryz.func55
def Mq:List (Nat×Ann):=[(2,⟨[(1,.val .str),(8,.val (.slice bL)),(9,.val tI),(10,.val tI)],[],[],aO _⟩),
 (200002,⟨[],[],[],fun _=>0⟩)]
def Ap:an:=⟨[.val b7,.val .str],[.val tI],fun x=>fB x.1 x.2.1⟩
noncomputable def QV:Cx:=⟨tpr,[],[]⟩
theorem Gn:FB 82 Ap:=fbk QV Mq none (by intro x;kernel_rfl) (.nil _) Tryz.func82
def EX:List (Nat×Ann):=[(4,⟨[(2,.val .bool),(3,.ref 3 0),(12,.val (.slice aY)),(13,.val tI),(14,.val tI)],[(3,we)],[],aO _⟩),
 (200004,⟨[],[],[],fun _=>0⟩)]
def rB:an:=⟨[.val b7,.val (.slice aY),.val .bool],[.val tI],fun x=>iJ x.1 x.2.1 x.2.2.1⟩
noncomputable def H7:Cx:=⟨tpr,[(55,yX),(80,mO),(82,Ap)],[]⟩
theorem zq:FB 57 rB:=fbk H7 EX none (by intro x;kernel_rfl) (cz Dm (cz qH (cz Gn (.nil _)))) Tryz.func57
def Cb:an:=⟨[.val b7,.val tI],[.val tI],fun x=>pH x.1 x.2.1⟩
noncomputable def Lu:Cx:=⟨tpr,[(52,Cd),(54,Aq),(55,yX),(57,rB),(82,Ap)],[]⟩
theorem LJ:FB 56 Cb:=fbk Lu [] none (by intro x;kernel_rfl) (cz Il (cz Gp (cz Dm (cz zq (cz Gn (.nil _)))))) Tryz.func56
def DQ:List (Nat×Ann):=[(12,⟨[(1,.ref 1 0),(45,.val (.slice bL)),(46,.val tI),(47,.val tI)],[(1,we)],[],aO _⟩),
 (26,⟨[(1,.ref 1 0),(88,.val tI),(89,.val tI)],[(1,we)],[],aO _⟩),
 (200012,⟨[(1,.ref 1 0)],[(1,we)],[],fun _=>0⟩),
 (200026,⟨[(1,.ref 1 0)],[(1,we)],[],fun _=>0⟩)]
def xC:an:=⟨[.val b7],[.val tI],fun x=>oN x.1⟩
noncomputable def GS:Cx:=⟨tpr,[(52,Cd),(53,KY),(54,Aq),(55,yX),(56,Cb),(57,rB)],[]⟩
theorem GW:FB 16 xC:=fbk GS DQ none (by intro x;kernel_rfl) (cz Il (cz Us (cz Gp (cz Dm (cz LJ (cz zq (.nil _))))))) Tryz.func16
def zf:List (Nat×Ann):=[(4,⟨[(0,.val (.slice aY)),(1,.val (.slice aY)),(12,.val tI),(13,.val tI)],[],[],aO _⟩),
 (200004,⟨[],[],[],fun _=>0⟩)]
def qk:an:=⟨[.val (.slice aY),.val (.slice aY)],[.val .bool],fun x=>gK x.1 x.2.1⟩
noncomputable def AP:Cx:=⟨tpr,[],[]⟩
theorem AS:FB 17 qk:=fbk AP zf none (by intro x;kernel_rfl) (.nil _) Tryz.func17
def Ab:List (Nat×Ann):=[(4,⟨[(0,.val (.slice bL)),(1,.val (.slice bL)),(12,.val tI),(13,.val tI)],[],[],aO _⟩),
 (200004,⟨[],[],[],fun _=>0⟩)]
def rC:an:=⟨[.val (.slice bL),.val (.slice bL)],[.val .bool],fun x=>jN x.1 x.2.1⟩
noncomputable def Bv:Cx:=⟨tpr,[],[]⟩
theorem BC:FB 18 rC:=fbk Bv Ab none (by intro x;kernel_rfl) (.nil _) Tryz.func18
def QH:List (Nat×Ann):=[(4,⟨[(2,.ref 2 0),(3,.ref 3 0),(58,.val (.slice b9)),(59,.val tI),(60,.val tI)],[(2,we),(3,we)],[],aO _⟩),
 (200004,⟨[(2,.ref 2 0),(3,.ref 3 0)],[(2,we),(3,we)],[],fun _=>0⟩),
 (300010,⟨[(4,.val .bool)],[],[],fun _=>0⟩)]
def KW:an:=⟨[.val b7,.val b7],[.val .bool],fun x=>FQ x.1 x.2.1⟩
noncomputable def Uc:Cx:=⟨tpr,[(17,qk),(18,rC)],[]⟩
theorem Uq:FB 7 KW:=fbk Uc QH none (by intro x;kernel_rfl) (cz AS (cz BC (.nil _))) Tryz.func7
def wV:an:=⟨[.val eE,.val (.ptr eE)],[.val .bool],fun x=>Av x.1 x.2.1⟩
noncomputable def Fa:Cx:=⟨tpr,[],[]⟩
theorem Fk:FB 132 wV:=fbk Fa [] none (by intro x;kernel_rfl) (.nil _) Tryz.func132
def vW:List (Nat×Ann):=[(2,⟨[(0,.val (.slice eE)),(1,.val (.clo 132 (.ptr eE))),(7,.val tI),(8,.val tI)],[],[],aO _⟩),
 (200002,⟨[],[],[],fun _=>0⟩)]
def nW:an:=⟨[.val (.slice eE),.val (.clo 132 (.ptr eE))],[.val tI],fun x=>qi x.1 x.2.1⟩
noncomputable def xK:Cx:=⟨tpr,[(132,wV)],[]⟩
theorem xQ:FB 176 nW:=fbk xK vW none (by intro x;kernel_rfl) (cz Fk (.nil _)) Tryz.func176
def lI:an:=⟨[.val (.slice eE),.val (.clo 132 (.ptr eE))],[.val .bool],fun x=>nU x.1 x.2.1⟩
noncomputable def vQ:Cx:=⟨tpr,[(176,nW)],[]⟩
theorem vR:FB 131 lI:=fbk vQ [] none (by intro x;kernel_rfl) (cz xQ (.nil _)) Tryz.func131
def rz:an:=⟨[.val aS],[.val tI],fun x=>l9 x.1⟩
noncomputable def HS:Cx:=⟨tpr,[(71,dY),(72,mM)],[]⟩
theorem zm:FB 133 rz:=fbk HS [] none (by intro x;kernel_rfl) (cz fh (cz qc (.nil _))) Tryz.func133
def ET:List (Nat×Ann):=[(4,⟨[(0,.val (.slice eE)),(9,.val (.slice eE)),(10,.val tI),(11,.val tI)],[],[],aO _⟩),
 (200004,⟨[],[],[],fun _=>0⟩)]
def zN:an:=⟨[.val (.slice eE)],[.val tI],fun x=>Cs x.1⟩
noncomputable def HM:Cx:=⟨tpr,[(40,lV),(41,wZ),(42,gZ),(131,lI),(133,rz)],[]⟩
theorem Ig:FB 83 zN:=fbk HM ET none (by intro x;kernel_rfl) (cz pz (cz BB (cz ja (cz vR (cz zm (.nil _)))))) Tryz.func83
def Cp:List (Nat×Ann):=[(4,⟨[(0,.val (.slice cG)),(11,.val (.slice cG)),(12,.val tI),(13,.val tI)],[],[],aO _⟩),
 (16,⟨[(0,.val (.slice cG)),(4,.ref 4 0),(11,.val (.slice cG)),(12,.val tI),(13,.val tI),(46,.val (.slice .str)),(47,.val tI),(48,.val tI)],[(4,[.val tI,.val tI,.val tI,.val (.slice .str)])],[],aO _⟩),
 (200004,⟨[],[],[],fun _=>0⟩),
 (200016,⟨[(0,.val (.slice cG)),(11,.val (.slice cG)),(12,.val tI),(13,.val tI)],[],[],fun _=>0⟩)]
def vM:an:=⟨[.val (.slice cG)],[.val tI],fun x=>zh x.1⟩
noncomputable def DZ:Cx:=⟨tpr,[(40,lV),(41,wZ),(48,qj),(133,rz)],[]⟩
theorem Eh:FB 84 vM:=fbk DZ Cp none (by intro x;kernel_rfl) (cz pz (cz BB (cz AR (cz zm (.nil _))))) Tryz.func84
def AE:an:=⟨[.val (.slice eE),.val (.slice cG)],[.val tI],fun x=>DT x.1 x.2.1⟩
noncomputable def Ke:Cx:=⟨tpr,[(83,zN),(84,vM)],[]⟩
theorem Kn:FB 58 AE:=fbk Ke [] none (by intro x;kernel_rfl) (cz Ig (cz Eh (.nil _))) Tryz.func58
def GF:an:=⟨[.val aS],[.val tI],fun x=>E6 x.1⟩
noncomputable def QN:Cx:=⟨tpr,[(119,uK)],[]⟩
theorem Ra:FB 85 GF:=fbk QN [] none (by intro x;kernel_rfl) (cz Af (.nil _)) Tryz.func85
def pM:an:=⟨[.val (.slice .hnd)],[.row 111 .hnd],fun x=>sR x.1⟩
noncomputable def Ad:Cx:=⟨tpr,[],[]⟩
theorem Ag:FB 86 pM:=fbk Ad [] none (by intro x;kernel_rfl) (.nil _) Tryz.func86
def AF:an:=⟨[.val .hnd,.arR aE],[.val tI],fun x=>xH x.1 x.2.1⟩
noncomputable def Kf:Cx:=⟨tpr,[],[]⟩
theorem Ko:FB 89 AF:=fbk Kf [] none (by intro x;kernel_rfl) (.nil _) Tryz.func89
def rA:an:=⟨[.val .hnd,.val .hnd,.arR aE],[.val tI],fun x=>mc x.1 x.2.1 x.2.2.1⟩
noncomputable def HU:Cx:=⟨tpr,[(89,AF)],[]⟩
theorem zn:FB 88 rA:=fbk HU [] none (by intro x;kernel_rfl) (cz Ko (.nil _)) Tryz.func88
def nu:List (Nat×Ann):=[(1,⟨[(0,.rowR 10250000),(1,.val tI),(2,.val tI),(3,.val (.clo 88 .unit)),(8,.val tI)],[],[.rowC 10250000 111 .hnd,.arF aE],aO _⟩),
 (4,⟨[(0,.rowR 10250000),(1,.val tI),(2,.val tI),(3,.val (.clo 88 .unit)),(8,.val tI),(9,.val tI)],[],[.rowC 10250000 111 .hnd,.arF aE],aO _⟩),
 (200001,⟨[],[],[.rowC 10250000 111 .hnd,.arF aE],fun _=>0⟩),
 (200004,⟨[(0,.rowR 10250000),(1,.val tI),(2,.val tI),(3,.val (.clo 88 .unit)),(8,.val tI)],[],[.rowC 10250000 111 .hnd,.arF aE],fun _=>0⟩)]
def iq:an:=⟨[.mrow 111 .hnd,.val tI,.val tI,.val (.clo 88 .unit),.arR aE],[],fun x=>fy x.1 x.2.1 x.2.2.1 x.2.2.2.1 x.2.2.2.2.1⟩
noncomputable def n6:Cx:=⟨tpr,[(88,rA)],[]⟩
theorem n7:FB 177 iq:=fbk n6 nu none (by intro x;kernel_rfl) (cz zn (.nil _)) Tryz.func177
def pg:List (Nat×Ann):=[(1,⟨[(0,.rowR 10250000),(1,.val tI),(2,.val tI),(3,.val tI),(10,.val tI)],[],[.rowC 10250000 111 .hnd,.arF aE],aO _⟩),
 (200001,⟨[],[],[.rowC 10250000 111 .hnd,.arF aE],fun _=>0⟩)]
def jh:an:=⟨[.mrow 111 .hnd,.val tI,.val tI,.val tI,.val (.clo 88 .unit),.arR aE],[],fun x=>eD x.1 x.2.1 x.2.2.1 x.2.2.2.1 x.2.2.2.2.1 x.2.2.2.2.2.1⟩
noncomputable def qo:Cx:=⟨tpr,[],[]⟩
theorem qu:FB 213 jh:=fbk qo pg none (by intro x;kernel_rfl) (.nil _) Tryz.func213
def qz:List (Nat×Ann):=[(2,⟨[(0,.rowR 10250000),(2,.val tI),(4,.val (.clo 88 .unit)),(10,.val tI),(11,.val tI)],[],[.rowC 10250000 111 .hnd,.arF aE],aO _⟩),
 (200002,⟨[(0,.rowR 10250000),(2,.val tI),(4,.val (.clo 88 .unit)),(10,.val tI)],[],[.rowC 10250000 111 .hnd,.arF aE],fun _=>0⟩)]
def ke:an:=⟨[.mrow 111 .hnd,.val tI,.val tI,.val tI,.val (.clo 88 .unit),.arR aE],[],fun x=>lG x.1 x.2.1 x.2.2.1 x.2.2.2.1 x.2.2.2.2.1 x.2.2.2.2.2.1⟩
noncomputable def s8:Cx:=⟨tpr,[(213,jh)],[]⟩
theorem tg:FB 204 ke:=fbk s8 qz none (by intro x;kernel_rfl) (cz qu (.nil _)) Tryz.func204
def iW:List (Nat×Ann):=[(3,⟨[(0,.rowR 10250000),(1,.val tI),(4,.val (.clo 88 .unit)),(10,.val tI),(11,.val tI)],[],[.rowC 10250000 111 .hnd,.arF aE],aO _⟩),
 (9,⟨[(0,.rowR 10250000),(10,.val tI),(13,.val tI)],[],[.rowC 10250000 111 .hnd,.arF aE],aO _⟩),
 (15,⟨[(0,.rowR 10250000),(2,.val tI),(4,.val (.clo 88 .unit)),(14,.val tI),(15,.val tI)],[],[.rowC 10250000 111 .hnd,.arF aE],aO _⟩),
 (21,⟨[(0,.rowR 10250000),(14,.val tI),(17,.val tI)],[],[.rowC 10250000 111 .hnd,.arF aE],aO _⟩),
 (33,⟨[(0,.rowR 10250000),(1,.val tI),(2,.val tI),(3,.val tI),(4,.val (.clo 88 .unit)),(18,.val tI),(19,.val tI),(20,.val tI),(21,.val tI),(22,.val tI)],[],[.rowC 10250000 111 .hnd,.arF aE],aO _⟩),
 (100030,⟨[(0,.rowR 10250000),(1,.val tI),(2,.val tI),(3,.val tI),(4,.val (.clo 88 .unit)),(18,.val tI),(19,.val tI),(20,.val tI),(21,.val tI)],[],[.rowC 10250000 111 .hnd,.arF aE],fun _=>0⟩),
 (100040,⟨[(0,.rowR 10250000),(1,.val tI),(3,.val tI),(4,.val (.clo 88 .unit)),(18,.val tI),(20,.val tI),(24,.val tI)],[],[.rowC 10250000 111 .hnd,.arF aE],fun _=>0⟩),
 (100042,⟨[(0,.rowR 10250000),(3,.val tI),(4,.val (.clo 88 .unit)),(18,.val tI),(24,.val tI)],[],[.rowC 10250000 111 .hnd,.arF aE],fun _=>0⟩),
 (200003,⟨[(0,.rowR 10250000),(1,.val tI),(10,.val tI)],[],[.rowC 10250000 111 .hnd,.arF aE],fun _=>0⟩),
 (200009,⟨[],[],[.rowC 10250000 111 .hnd,.arF aE],fun _=>0⟩),
 (200015,⟨[(0,.rowR 10250000),(2,.val tI),(14,.val tI)],[],[.rowC 10250000 111 .hnd,.arF aE],fun _=>0⟩),
 (200021,⟨[],[],[.rowC 10250000 111 .hnd,.arF aE],fun _=>0⟩),
 (200033,⟨[(0,.rowR 10250000),(1,.val tI),(2,.val tI),(3,.val tI),(4,.val (.clo 88 .unit)),(18,.val tI),(19,.val tI),(20,.val tI)],[],[.rowC 10250000 111 .hnd,.arF aE],fun _=>0⟩)]
def bE:List PM:=[.mrow 111 .hnd,.val tI,.val tI,.val tI,.val (.clo 88 .unit),.arR aE]
def cw:List RM:=[]
noncomputable def jg:List (Nat×an):=[(88,rA),(204,ke)]
def jE:an:=⟨bE,cw,fun x=>gL x.1 x.2.1 x.2.2.1 x.2.2.2.1 x.2.2.2.2.1 x.2.2.2.2.2.1⟩
theorem qs:∀ (self:dL bE->Option (cD bE cw)) (x:dL bE),Dk ⟨tpr,(178,⟨bE,cw,self⟩)::jg,[]⟩ iW none Tryz.f178 ⟨bE,cw,fun x=>dc self x.1 x.2.1 x.2.2.1 x.2.2.2.1 x.2.2.2.2.1 x.2.2.2.2.2.1⟩ x=dc self x.1 x.2.1 x.2.2.1 x.2.2.2.1 x.2.2.2.2.1 x.2.2.2.2.2.1:=by intro self x;kernel_rfl
theorem jx:dZ tpr 178:=iA Tryz.func178 rfl (by decide)
theorem qO:cM tpr 178 jE:=UA (ps:=bE) (rs:=cw) (m:=fun n x=>IZ (fun self x=>dc self x.1 x.2.1 x.2.2.1 x.2.2.2.1 x.2.2.2.2.1 x.2.2.2.2.2.1) n x) (Na (P:=Tryz.prog) (specs:=jg) (ps:=bE) (rs:=cw) (cz zn (cz tg (.nil _))) (by kernel_rfl) (fun self x=>dc self x.1 x.2.1 x.2.2.1 x.2.2.2.1 x.2.2.2.2.1 x.2.2.2.2.2.1) iW none (by kernel_rfl) jx qs) (fun x=>iZ x.1 x.2.1 x.2.2.1 x.2.2.2.1 x.2.2.2.2.1 x.2.2.2.2.2.1)
def qA:List (Nat×Ann):=[(2,⟨[(0,.rowR 10250000),(1,.val tI),(2,.val (.clo 88 .unit)),(6,.val tI),(7,.val tI),(8,.val tI)],[],[.rowC 10250000 111 .hnd,.arF aE],aO _⟩),
 (7,⟨[(0,.rowR 10250000),(1,.val tI),(2,.val (.clo 88 .unit)),(6,.val tI)],[],[.rowC 10250000 111 .hnd,.arF aE],aO _⟩),
 (9,⟨[(0,.rowR 10250000),(1,.val tI),(2,.val (.clo 88 .unit)),(6,.val tI),(7,.val tI),(8,.val tI)],[],[.rowC 10250000 111 .hnd,.arF aE],aO _⟩),
 (200002,⟨[(0,.rowR 10250000),(1,.val tI),(2,.val (.clo 88 .unit)),(6,.val tI),(7,.val tI)],[],[.rowC 10250000 111 .hnd,.arF aE],fun _=>0⟩),
 (200007,⟨[],[],[.rowC 10250000 111 .hnd,.arF aE],fun _=>0⟩),
 (200009,⟨[(0,.rowR 10250000),(1,.val tI),(2,.val (.clo 88 .unit)),(6,.val tI),(7,.val tI)],[],[.rowC 10250000 111 .hnd,.arF aE],fun _=>0⟩)]
def kg:an:=⟨[.mrow 111 .hnd,.val tI,.val (.clo 88 .unit),.arR aE],[],fun x=>lH x.1 x.2.1 x.2.2.1 x.2.2.2.1⟩
noncomputable def s9:Cx:=⟨tpr,[(177,iq),(178,jE)],[]⟩
theorem th:FB 134 kg:=fbk s9 qA none (by intro x;kernel_rfl) (cz n7 (.cons qO jx (.nil _))) Tryz.func134
def jP:an:=⟨[.mrow 111 .hnd,.val (.clo 88 .unit),.arR aE],[],fun x=>lf x.1 x.2.1 x.2.2.1⟩
noncomputable def sj:Cx:=⟨tpr,[(134,kg)],[]⟩
theorem sr:FB 87 jP:=fbk sj [] none (by intro x;kernel_rfl) (cz th (.nil _)) Tryz.func87
end Go.Proofs.SeatU
end
