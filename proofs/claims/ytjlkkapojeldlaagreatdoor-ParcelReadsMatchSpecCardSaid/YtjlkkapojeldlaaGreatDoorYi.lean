/-
  Each function that the law reaches is as its plain model says, a further part. No condition.
-/
import Derived.Test.YtjlkkapojeldlaaGreatDoorYy
set_option maxRecDepth 100000
noncomputable section
namespace Go.Proofs.SeatU
open Go.Dn Go.Md Go.Proofs
def fB:List CK:=[.val .bool,.own 3 tI]
def yU:List CK:=[.val .bool,.rowR 24]
def kL:List CK:=[.val .bool,.val (.slice tI)]
def FX:List (Nat×Ann):=[(3,⟨[(3,.ref 3 0),(4,.ref 4 0),(5,.ref 5 0),(27,.val (.slice tI)),(28,.val tI),(29,.val tI)],[(3,kL),(4,fB),(5,yU)],[.rowC 24 3 tI],aY _⟩),
 (6,⟨[(3,.ref 3 0),(4,.ref 4 0),(5,.ref 5 0),(6,.val tI),(7,.val tI),(27,.val (.slice tI)),(28,.val tI),(29,.val tI),(35,.val (.slice tI)),(36,.val tI),(37,.val tI)],[(3,kL),(4,fB),(5,yU)],[.rowC 24 3 tI],aY _⟩),
 (14,⟨[(4,.ref 4 0),(5,.ref 5 0),(86,.val tI),(87,.val tI)],[(4,fB),(5,yU)],[.rowC 24 3 tI],aY _⟩),
 (200003,⟨[(4,.ref 4 0),(5,.ref 5 0)],[(4,fB),(5,yU)],[.rowC 24 3 tI],fun _=>0⟩),
 (200006,⟨[(3,.ref 3 0),(4,.ref 4 0),(5,.ref 5 0),(27,.val (.slice tI)),(28,.val tI),(29,.val tI)],[(3,kL),(4,fB),(5,yU)],[.rowC 24 3 tI],fun _=>0⟩),
 (200014,⟨[(4,.ref 4 0),(5,.ref 5 0)],[(4,fB),(5,yU)],[.rowC 24 3 tI],fun _=>0⟩)]
def vo:ax:=⟨[.val bf,.val bf],[.val bf],fun x=>oE x.1 x.2.1⟩
noncomputable def J8:Cx:=⟨tpr,[(204,vp)],[]⟩
theorem Bc:FB 185 vo:=fbk J8 FX none (by intro x;kernel_rfl) (cz Be (.nil _)) Tryz.func185
def JY:List (Nat×Ann):=[(3,⟨[(2,.ref 2 0),(3,.ref 3 0),(5,.val tI),(6,.val tI)],[(2,fB),(3,kL)],[],aY _⟩),
 (200003,⟨[(2,.ref 2 0),(3,.ref 3 0)],[(2,fB),(3,kL)],[],fun _=>0⟩)]
def EK:ax:=⟨[.val tI],[.val bf],fun x=>AV x.1⟩
noncomputable def MH:Cx:=⟨tpr,[(185,vo),(186,FJ)],[]⟩
theorem MQ:FB 187 EK:=fbk MH JY none (by intro x;kernel_rfl) (cz Bc (cz Lp (.nil _))) Tryz.func187
def Mn:ax:=⟨[.val cD,.val tI],[.val bf],fun x=>AS x.1 x.2.1⟩
noncomputable def QO:Cx:=⟨tpr,[(185,vo),(186,FJ),(187,EK)],[]⟩
theorem QX:FB 137 Mn:=fbk QO [] none (by intro x;kernel_rfl) (cz Bc (cz Lp (cz MQ (.nil _)))) Tryz.func137
def EJ:ax:=⟨[.val bf],[.val bf],fun x=>AU x.1⟩
noncomputable def MG:Cx:=⟨tpr,[],[]⟩
theorem MP:FB 184 EJ:=fbk MG [] none (by intro x;kernel_rfl) (.nil _) Tryz.func184
def JZ:List (Nat×Ann):=[(4,⟨[(0,.val (.slice tI)),(1,.val (.slice tI)),(5,.val tI)],[],[],aY _⟩),
 (200004,⟨[],[],[],fun _=>0⟩)]
def EN:ax:=⟨[.val (.slice tI),.val (.slice tI)],[.val tI],fun x=>AW x.1 x.2.1⟩
noncomputable def MK:Cx:=⟨tpr,[],[]⟩
theorem MT:FB 202 EN:=fbk MK JZ none (by intro x;kernel_rfl) (.nil _) Tryz.func202
def EL:ax:=⟨[.val (.slice tI),.val tI],[.val tI],fun x=>tv x.1 x.2.1⟩
noncomputable def MI:Cx:=⟨tpr,[],[]⟩
theorem MR:FB 203 EL:=fbk MI [] none (by intro x;kernel_rfl) (.nil _) Tryz.func203
def KU:List (Nat×Ann):=[(7,⟨[(2,.ref 2 0),(3,.ref 3 0),(4,.ref 4 0),(5,.ref 5 0),(6,.val tI),(31,.val tI),(32,.val tI)],[(2,kL),(3,kL),(4,fB),(5,fB)],[],aY _⟩),
 (19,⟨[(2,.ref 2 0),(3,.ref 3 0),(4,.ref 4 0),(9,.ref 9 0),(10,.val tI),(70,.val tI),(71,.val tI)],[(2,kL),(3,kL),(4,fB),(9,fB)],[],aY _⟩),
 (100003,⟨[(2,.ref 2 0),(3,.ref 3 0),(4,.ref 4 0)],[(2,kL),(3,kL),(4,fB)],[],fun _=>0⟩),
 (100012,⟨[(2,.ref 2 0),(3,.ref 3 0),(4,.ref 4 0),(5,.ref 5 0),(6,.val tI),(8,.val tI),(31,.val tI),(32,.val tI)],[(2,kL),(3,kL),(4,fB),(5,fB)],[],fun _=>0⟩),
 (200007,⟨[(4,.ref 4 0),(5,.ref 5 0)],[(4,fB),(5,fB)],[],fun _=>0⟩),
 (200019,⟨[(4,.ref 4 0),(9,.ref 9 0)],[(4,fB),(9,fB)],[],fun _=>0⟩)]
def Hl:ax:=⟨[.val bf,.val bf],[.val bf],fun x=>DM x.1 x.2.1⟩
noncomputable def Ok:Cx:=⟨tpr,[(202,EN),(203,EL),(204,vp)],[]⟩
theorem Ot:FB 183 Hl:=fbk Ok KU none (by intro x;kernel_rfl) (cz MT (cz MR (cz Be (.nil _)))) Tryz.func183
def Ho:ax:=⟨[.val bf],[.val tI],fun x=>DN x.1⟩
noncomputable def Ol:Cx:=⟨tpr,[],[]⟩
theorem Ou:FB 182 Ho:=fbk Ol [] none (by intro x;kernel_rfl) (.nil _) Tryz.func182
def JP:ax:=⟨[.val bf,.val bf],[.val tI],fun x=>CW x.1 x.2.1⟩
noncomputable def PB:Cx:=⟨tpr,[(182,Ho),(183,Hl),(184,EJ)],[]⟩
theorem PI:FB 136 JP:=fbk PB [] none (by intro x;kernel_rfl) (cz Ou (cz Ot (cz MP (.nil _)))) Tryz.func136
def Hj:ax:=⟨[.val cD,.val cD],[.val tI],fun x=>DK x.1 x.2.1⟩
noncomputable def Oj:Cx:=⟨tpr,[(136,JP),(137,Mn)],[]⟩
theorem Oq:FB 80 Hj:=fbk Oj [] none (by intro x;kernel_rfl) (cz PI (cz QX (.nil _))) Tryz.func80
def vn:ax:=⟨[.val cD,.val .bool],[.val .bool],fun x=>iq x.1 x.2.1⟩
noncomputable def J6:Cx:=⟨tpr,[(79,uX),(80,Hj)],[]⟩
theorem Bb:FB 46 vn:=fbk J6 [] none (by intro x;kernel_rfl) (cz Cj (cz Oq (.nil _))) Tryz.func46
def yP:List (Nat×Ann):=[(2,⟨[(22,.val (.slice tI)),(23,.val tI),(24,.val tI)],[],[],aY _⟩),
 (200002,⟨[],[],[],fun _=>0⟩)]
def sL:ax:=⟨[.val bL,.val bL],[.val tI],fun x=>iM x.1 x.2.1⟩
noncomputable def Bx:Cx:=⟨tpr,[(127,gJ)],[]⟩
theorem BD:FB 81 sL:=fbk Bx yP none (by intro x;kernel_rfl) (.cons nG ny (.nil _)) Tryz.func81
def yd:List (Nat×Ann):=[(4,⟨[(0,.val (.slice bL)),(8,.val (.slice bL)),(9,.val tI),(10,.val tI)],[],[],aY _⟩),
 (200004,⟨[],[],[],fun _=>0⟩)]
def sw:ax:=⟨[.val (.slice bL)],[.val tI],fun x=>gU x.1⟩
noncomputable def Ai:Cx:=⟨tpr,[(43,xd),(46,vn),(81,sL)],[]⟩
theorem Aq:FB 47 sw:=fbk Ai yd none (by intro x;kernel_rfl) (cz Ck (cz Bb (cz BD (.nil _)))) Tryz.func47
def DT:List (Nat×Ann):=[(2,⟨[(1,.val .str),(7,.val (.slice aK)),(8,.val tI),(9,.val tI)],[],[],aY _⟩),
 (200002,⟨[],[],[],fun _=>0⟩)]
def nh:ax:=⟨[.val (.slice aK),.val .str],[.val tI],fun x=>kV x.1 x.2.1⟩
noncomputable def Gc:Cx:=⟨tpr,[],[]⟩
theorem rA:FB 82 nh:=fbk Gc DT none (by intro x;kernel_rfl) (.nil _) Tryz.func82
def HH:List (Nat×Ann):=[(3,⟨[(0,.val (.slice aK)),(1,.val tI),(5,.val tI),(8,.val tI),(9,.val tI)],[],[],aY _⟩),
 (200003,⟨[],[],[],fun _=>0⟩)]
def C9:ax:=⟨[.val (.slice aK),.val tI],[.val .bool],fun x=>xW x.1 x.2.1⟩
noncomputable def K7:Cx:=⟨tpr,[(82,nh)],[]⟩
theorem Ln:FB 83 C9:=fbk K7 HH none (by intro x;kernel_rfl) (cz rA (.nil _)) Tryz.func83
def Mw:List (Nat×Ann):=[(2,⟨[(0,.val (.slice aK)),(1,.val tI),(6,.own 3 tI)],[],[],aY _⟩),
 (200002,⟨[(6,.own 3 tI)],[],[],fun _=>0⟩)]
def JO:ax:=⟨[.val (.slice aK),.val tI],[.row 3 tI,.val .bool],fun x=>GX x.1 x.2.1⟩
noncomputable def PA:Cx:=⟨tpr,[(82,nh)],[]⟩
theorem PG:FB 84 JO:=fbk PA Mw none (by intro x;kernel_rfl) (cz rA (.nil _)) Tryz.func84
def HJ:List (Nat×Ann):=[(2,⟨[(0,.val (.slice aK)),(9,.val (.slice aK)),(10,.val tI),(11,.val tI)],[],[],aY _⟩),
 (8,⟨[(0,.val (.slice aK)),(27,.val tI),(28,.val tI)],[],[],aY _⟩),
 (14,⟨[(0,.val (.slice aK)),(36,.val tI),(37,.val tI)],[],[],aY _⟩),
 (200002,⟨[(0,.val (.slice aK))],[],[],fun _=>0⟩),
 (200008,⟨[(0,.val (.slice aK))],[],[],fun _=>0⟩),
 (200014,⟨[],[],[],fun _=>0⟩)]
def Da:ax:=⟨[.val (.slice aK)],[.val tI],fun x=>xX x.1⟩
noncomputable def K8:Cx:=⟨tpr,[(82,nh),(83,C9),(84,JO)],[]⟩
theorem Lo:FB 48 Da:=fbk K8 HJ none (by intro x;kernel_rfl) (cz rA (cz Ln (cz PG (.nil _)))) Tryz.func48
def z8:List (Nat×Ann):=[(8,⟨[(1,.ref 1 0),(28,.val (.slice aK)),(29,.val tI),(30,.val tI)],[(1,[.val .str,.val .str,.val tI,.val (.slice aK)])],[],aY _⟩),
 (200008,⟨[(1,.ref 1 0)],[(1,[.val .str,.val .str,.val tI,.val (.slice aK)])],[],fun _=>0⟩)]
def uV:ax:=⟨[.val eM],[.val tI],fun x=>fO x.1⟩
noncomputable def B8:Cx:=⟨tpr,[(43,xd),(44,EI),(45,zN),(46,vn),(47,sw),(48,Da)],[]⟩
theorem BA:pS B8 z8 none Tryz.f16 uV:=by intro x;kernel_rfl
theorem CI:bO tpr 16 uV:=kN BA (cz Ck (cz MO (cz Il (cz Bb (cz Aq (cz Lo (.nil _))))))) nE Tryz.func16
def sF:List (Nat×Ann):=[(4,⟨[(0,.val (.slice bL)),(1,.val (.slice bL)),(12,.val tI),(13,.val tI)],[],[],aY _⟩),
 (200004,⟨[],[],[],fun _=>0⟩)]
def lI:ax:=⟨[.val (.slice bL),.val (.slice bL)],[.val .bool],fun x=>fP x.1 x.2.1⟩
noncomputable def uA:Cx:=⟨tpr,[],[]⟩
theorem uF:FB 49 lI:=fbk uA sF none (by intro x;kernel_rfl) (.nil _) Tryz.func49
end Go.Proofs.SeatU
end
