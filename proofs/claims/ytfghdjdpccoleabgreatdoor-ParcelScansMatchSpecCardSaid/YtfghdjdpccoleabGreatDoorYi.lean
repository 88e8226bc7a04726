/-
  Each function that the law reaches is as its plain model says, a further part. No condition.
-/
import Derived.Test.YtfghdjdpccoleabGreatDoorYz
set_option maxRecDepth 100000
noncomputable section
namespace Go.Proofs.SeatU
open Go.Dn Go.Md Go.Proofs
def nY:List CK:=[.own 68 ah,.own 77 aC]
def Q7:List CK:=[.rowR 10250001,.rowR 10250002]
def uG:List CK:=[.val .bool,.own 3 tI]
def mg:List CK:=[.val .bool,.val (.slice tI)]
def DJ:List CK:=[.val .str,.val .bool,.val (.slice ah),.val (.slice ah)]
def Q8:List CK:=[.val .str,.val .str,.val .str,.val tI,.val tI]
def Bb:List CK:=[.val .str,.val .str,.val tI,.val (.slice bh),.val (.slice aO)]
def fL:List CK:=[.val .str,.val .str,.val tI,.val (.slice bh)]
def aaO:List CK:=[.val tI,.val .str,.val .str,.val .str,.val .str,.val tI,.val tI]
def FH:List CK:=[.val tI,.val tI]
def H8:List (Nat×Ann):=[(4,⟨[(0,.val (.slice ah)),(8,.val (.slice ah)),(9,.val tI),(10,.val tI)],[],[],aI _⟩),
 (200004,⟨[],[],[],fun _=>0⟩)]
def uw:aA:=⟨[.val (.slice ah)],[.val tI],fun x=>iK x.1⟩
noncomputable def J8:Cx:=⟨tpr,[(60,lI),(69,GJ),(70,EF)],[]⟩
theorem Bn:FB 33 uw:=fbk J8 H8 none (by intro x;kernel_rfl) (cz oF (cz MI (cz K7 (.nil _)))) Tryz.func33
def Oy:List (Nat×Ann):=[(2,⟨[(1,.val .str),(7,.val (.slice bh)),(8,.val tI),(9,.val tI)],[],[],aI _⟩),
 (200002,⟨[],[],[],fun _=>0⟩)]
def mS:aA:=⟨[.val (.slice bh),.val .str],[.val tI],fun x=>mC x.1 x.2.1⟩
noncomputable def Rj:Cx:=⟨tpr,[],[]⟩
theorem p9:FB 26 mS:=fbk Rj Oy none (by intro x;kernel_rfl) (.nil _) Tryz.func26
def SN:List (Nat×Ann):=[(3,⟨[(0,.val (.slice bh)),(1,.val tI),(5,.val tI),(8,.val tI),(9,.val tI)],[],[],aI _⟩),
 (200003,⟨[],[],[],fun _=>0⟩)]
def NA:aA:=⟨[.val (.slice bh),.val tI],[.val .bool],fun x=>HE x.1 x.2.1⟩
noncomputable def Wp:Cx:=⟨tpr,[(26,mS)],[]⟩
theorem WK:FB 161 NA:=fbk Wp SN none (by intro x;kernel_rfl) (cz p9 (.nil _)) Tryz.func161
def X3:List (Nat×Ann):=[(2,⟨[(0,.val (.slice bh)),(1,.val tI),(6,.own 3 tI)],[],[],aI _⟩),
 (200002,⟨[(6,.own 3 tI)],[],[],fun _=>0⟩)]
def NC:aA:=⟨[.val (.slice bh),.val tI],[.row 3 tI,.val .bool],fun x=>Nf x.1 x.2.1⟩
noncomputable def aaV:Cx:=⟨tpr,[(26,mS)],[]⟩
theorem Ux:FB 58 NC:=fbk aaV X3 none (by intro x;kernel_rfl) (cz p9 (.nil _)) Tryz.func58
def SO:List (Nat×Ann):=[(2,⟨[(0,.val (.slice bh)),(9,.val (.slice bh)),(10,.val tI),(11,.val tI)],[],[],aI _⟩),
 (8,⟨[(0,.val (.slice bh)),(27,.val tI),(28,.val tI)],[],[],aI _⟩),
 (14,⟨[(0,.val (.slice bh)),(36,.val tI),(37,.val tI)],[],[],aI _⟩),
 (200002,⟨[(0,.val (.slice bh))],[],[],fun _=>0⟩),
 (200008,⟨[(0,.val (.slice bh))],[],[],fun _=>0⟩),
 (200014,⟨[],[],[],fun _=>0⟩)]
def NB:aA:=⟨[.val (.slice bh)],[.val tI],fun x=>HF x.1⟩
noncomputable def Wq:Cx:=⟨tpr,[(26,mS),(58,NC),(161,NA)],[]⟩
theorem WL:FB 109 NB:=fbk Wq SO none (by intro x;kernel_rfl) (cz p9 (cz Ux (cz WK (.nil _)))) Tryz.func109
def JY:List (Nat×Ann):=[(8,⟨[(1,.ref 1 0),(28,.val (.slice bh)),(29,.val tI),(30,.val tI)],[(1,fL)],[],aI _⟩),
 (200008,⟨[(1,.ref 1 0)],[(1,fL)],[],fun _=>0⟩)]
def D9:aA:=⟨[.val bY],[.val tI],fun x=>vY x.1⟩
noncomputable def Mu:Cx:=⟨tpr,[(32,CX),(33,uw),(69,GJ),(70,EF),(108,Pp),(109,NB)],[]⟩
theorem MF:FB 57 D9:=fbk Mu JY none (by intro x;kernel_rfl) (cz I8 (cz Bn (cz MI (cz K7 (cz Yn (cz WL (.nil _))))))) Tryz.func57
def xA:aA:=⟨[.val bN],[.val aC],fun x=>iO x.1⟩
noncomputable def Wr:Cx:=⟨tpr,[(73,QI)],[]⟩
theorem Bo:FB 35 xA:=fbk Wr [] none (by intro x;kernel_rfl) (cz WM (.nil _)) Tryz.func35
def Lr:List (Nat×Ann):=[(2,⟨[(3,.ref 3 0),(4,.ref 4 0),(7,.val (.slice ah)),(8,.val tI),(9,.val tI)],[(3,Q8),(4,uG)],[],aI _⟩),
 (200002,⟨[(4,.ref 4 0)],[(4,uG)],[],fun _=>0⟩)]
def EW:aA:=⟨[.val (.slice ah),.val ah],[.val aC],fun x=>yh x.1 x.2.1⟩
noncomputable def OH:Cx:=⟨tpr,[(35,xA),(60,lI)],[]⟩
theorem OQ:FB 36 EW:=fbk OH Lr none (by intro x;kernel_rfl) (cz Bo (cz oF (.nil _))) Tryz.func36
def Lp:List (Nat×Ann):=[(4,⟨[(0,.val (.slice aO)),(12,.val (.slice aO)),(13,.val tI),(14,.val tI)],[],[],aI _⟩),
 (19,⟨[(0,.val (.slice aO)),(4,.ref 4 0),(12,.val (.slice aO)),(13,.val tI),(14,.val tI),(64,.val (.slice ah)),(65,.val tI),(66,.val tI)],[(4,DJ)],[],aI _⟩),
 (200004,⟨[],[],[],fun _=>0⟩),
 (200019,⟨[(0,.val (.slice aO)),(12,.val (.slice aO)),(13,.val tI),(14,.val tI)],[],[],fun _=>0⟩),
 (300008,⟨[(24,.val .bool)],[],[],fun _=>0⟩),
 (300010,⟨[(38,.val .bool)],[],[],fun _=>0⟩)]
def yL:aA:=⟨[.val (.slice aO)],[.val tI],fun x=>r0 x.1⟩
noncomputable def OG:Cx:=⟨tpr,[(32,CX),(33,uw),(34,HP),(35,xA),(36,EW)],[]⟩
theorem EM:FB 7 yL:=fbk OG Lp none (by intro x;kernel_rfl) (cz I8 (cz Bn (cz MH (cz Bo (cz OQ (.nil _)))))) Tryz.func7
def BZ:aA:=⟨[.val bY,.val (.slice aO)],[.val tI],fun x=>ox x.1 x.2.1⟩
noncomputable def Ri:Cx:=⟨tpr,[(7,yL),(57,D9)],[]⟩
theorem Hp:FB 24 BZ:=fbk Ri [] none (by intro x;kernel_rfl) (cz EM (cz MF (.nil _))) Tryz.func24
def QW:List (Nat×Ann):=[(2,⟨[(1,.val .str),(7,.val (.slice aO)),(8,.val tI),(9,.val tI)],[],[],aI _⟩),
 (200002,⟨[],[],[],fun _=>0⟩)]
def EG:aA:=⟨[.val (.slice aO),.val .str],[.val tI],fun x=>yj x.1 x.2.1⟩
noncomputable def Vm:Cx:=⟨tpr,[],[]⟩
theorem K8:FB 43 EG:=fbk Vm QW none (by intro x;kernel_rfl) (.nil _) Tryz.func43
def nS:List PM:=[.val bY,.val (.slice aO),.val tI]
def vm:List RM:=[.val .bool]
noncomputable def My:List (Nat×aA):=[(26,mS),(43,EG)]
def IC:aA:=⟨nS,vm,fun x=>uj x.1 x.2.1 x.2.2.1⟩
theorem WB:∀ (self:dn nS->Option (cF nS vm)) (x:dn nS),Ih ⟨tpr,(44,⟨nS,vm,self⟩)::My,[]⟩ [] none Tryz.f44 ⟨nS,vm,fun x=>kJ self x.1 x.2.1 x.2.2.1⟩ x=kJ self x.1 x.2.1 x.2.2.1:=by intro self x;kernel_rfl
theorem Im:cH tpr 44:=dh Tryz.func44 rfl (by decide)
theorem Pc:cQ tpr 44 IC:=De (ps:=nS) (rs:=vm) (m:=fun n x=>nL (fun self x=>kJ self x.1 x.2.1 x.2.2.1) n x) (Br (P:=Tryz.prog) (specs:=My) (ps:=nS) (rs:=vm) (cz p9 (cz K8 (.nil _))) (by kernel_rfl) (fun self x=>kJ self x.1 x.2.1 x.2.2.1) [] none (by kernel_rfl) Im WB) (fun x=>Ew x.1 x.2.1 x.2.2.1)
def PK:List (Nat×Ann):=[(3,⟨[(1,.val (.slice aO)),(2,.val tI),(3,.ref 3 0),(19,.val (.slice tI)),(20,.val tI),(21,.val tI)],[(3,fL)],[],aI _⟩),
 (200003,⟨[(1,.val (.slice aO)),(2,.val tI),(3,.ref 3 0)],[(3,fL)],[],fun _=>0⟩)]
def JB:aA:=⟨[.val bY,.val (.slice aO),.val tI],[.val .bool],fun x=>zg x.1 x.2.1 x.2.2.1⟩
noncomputable def Td:Cx:=⟨tpr,[(44,IC),(58,NC)],[]⟩
theorem Tq:FB 25 JB:=fbk Td PK none (by intro x;kernel_rfl) (.cons Pc Im (cz Ux (.nil _))) Tryz.func25
def Oz:List (Nat×Ann):=[(3,⟨[(0,.ref 2000 0),(4,.ref 4 0),(5,.ref 5 0),(6,.val tI)],[(4,Q8),(5,mg),(2000,Q7)],[.rowC 10250001 68 ah,.rowC 10250002 77 aC],aI _⟩),
 (100006,⟨[(0,.ref 2000 0),(5,.ref 5 0),(6,.val tI)],[(5,mg),(2000,nY)],[],fun _=>0⟩),
 (200003,⟨[(0,.ref 2000 0),(4,.ref 4 0),(5,.ref 5 0),(6,.val tI)],[(4,Q8),(5,mg),(2000,Q7)],[.rowC 10250001 68 ah,.rowC 10250002 77 aC],fun _=>0⟩),
 (300003,⟨[(27,.val .bool)],[],[],fun _=>0⟩)]
def B2:aA:=⟨[.box [.row 68 ah,.row 77 aC],.val ah,.val aC],[],fun x=>gq x.1 x.2.1 x.2.2.1⟩
noncomputable def Rk:Cx:=⟨tpr,[(60,lI),(72,Fo),(83,sE),(84,mF)],[]⟩
theorem Hq:FB 41 B2:=fbk Rk Oz none (by intro x;kernel_rfl) (cz oF (cz Ki (.cons CD CA (.cons wW wQ (.nil _))))) Tryz.func41
def V6:List (Nat×Ann):=[(4,⟨[(1,.ref 1 0),(2,.ref 2 0),(4,.ref 4 0),(5,.val tI),(6,.val tI)],[(1,mg),(2,uG),(4,[.val .bool,.rowR 11])],[.rowC 11 3 tI],aI _⟩),
 (200004,⟨[(2,.ref 2 0),(4,.ref 4 0),(5,.val tI)],[(2,uG),(4,[.val .bool,.rowR 11])],[.rowC 11 3 tI],fun _=>0⟩)]
def Su:aA:=⟨[.val aC],[.val aC,.val tI],fun x=>Oj x.1⟩
noncomputable def ZL:Cx:=⟨tpr,[(124,zZ)],[]⟩
theorem ZP:FB 162 Su:=fbk ZL V6 none (by intro x;kernel_rfl) (cz Ep (.nil _)) Tryz.func162
def SQ:List (Nat×Ann):=[(3,⟨[(3,.ref 3 0),(4,.ref 4 0),(5,.ref 5 0),(6,.own 3 tI),(7,.ref 7 0)],[(3,mg),(4,uG),(5,uG),(7,mg)],[],fun x=>20*x.2.2.2.2.2.2.2.2.1.length+2⟩),
 (11,⟨[(3,.ref 3 0),(4,.ref 4 0),(5,.ref 5 0),(6,.own 3 tI),(10,.ref 10 0),(11,.ref 11 0),(12,.ref 12 0),(13,.val tI)],[(3,mg),(4,uG),(5,uG),(10,mg),(11,mg),(12,mg)],[],aI _⟩),
 (200003,⟨[(3,.ref 3 0),(4,.ref 4 0),(5,.ref 5 0),(6,.own 3 tI)],[(3,mg),(4,uG),(5,uG)],[],fun _=>0⟩),
 (200011,⟨[(4,.ref 4 0),(5,.ref 5 0),(10,.ref 10 0),(11,.ref 11 0)],[(4,uG),(5,uG),(10,mg),(11,mg)],[],fun _=>0⟩)]
def ND:aA:=⟨[.val aC,.val aC],[.val aC,.val aC],fun x=>HG x.1 x.2.1⟩
noncomputable def Ws:Cx:=⟨tpr,[(34,HP),(42,zq),(71,Fp),(72,Fo),(111,CY),(125,zY),(162,Su)],[]⟩
theorem WN:FB 110 ND:=fbk Ws SQ none (by intro x;kernel_rfl) (cz MH (cz Dd (cz Kj (cz Ki (cz FW (cz Eo (cz ZP (.nil _)))))))) Tryz.func110
def Va:List (Nat×Ann):=[(5,⟨[(2,.ref 2 0),(6,.val tI),(7,.val tI)],[(2,mg)],[],aI _⟩),
 (200005,⟨[(2,.ref 2 0),(6,.val tI)],[(2,mg)],[],fun _=>0⟩)]
def Pt:aA:=⟨[.val aC,.val tI],[.val tI,.val .bool],fun x=>KL x.1 x.2.1⟩
noncomputable def Yf:Cx:=⟨tpr,[(111,CY),(122,IE)],[]⟩
theorem Yp:FB 112 Pt:=fbk Yf Va none (by intro x;kernel_rfl) (cz FW (cz O7 (.nil _))) Tryz.func112
def U8:List (Nat×Ann):=[(2,⟨[(1,.ref 1 0),(2,.ref 2 0),(4,.val tI)],[(1,mg),(2,FH)],[],aI _⟩),
 (200002,⟨[(1,.ref 1 0),(2,.ref 2 0),(4,.val tI)],[(1,mg),(2,FH)],[],fun _=>0⟩)]
def ID:aA:=⟨[.val aC],[.val bN,.val tI],fun x=>CN x.1⟩
noncomputable def Yb:Cx:=⟨tpr,[(71,Fp),(110,ND),(111,CY),(112,Pt)],[]⟩
theorem O6:FB 59 ID:=fbk Yb U8 none (by intro x;kernel_rfl) (cz Kj (cz WN (cz FW (cz Yp (.nil _))))) Tryz.func59
def SM:List (Nat×Ann):=[(3,⟨[(0,.val .str),(2,.val (.slice ah)),(7,.ref 7 0),(18,.val (.slice ah)),(19,.val tI),(20,.val tI)],[(7,nY)],[],aI _⟩),
 (8,⟨[(0,.val .str),(7,.ref 7 0),(31,.val (.slice ah)),(32,.val tI),(33,.val tI)],[(7,nY)],[],aI _⟩),
 (14,⟨[(0,.val .str),(7,.ref 7 0),(12,.own 35 aq),(44,.val (.slice ah)),(45,.val tI),(46,.val tI)],[(7,[.val (.slice ah),.own 77 aC])],[],aI _⟩),
 (100020,⟨[(0,.val .str),(7,.ref 7 0),(12,.own 35 aq),(14,.ref 14 0),(15,.ref 15 0),(17,.val tI),(44,.val (.slice ah)),(45,.val tI),(46,.val tI)],[(7,[.val (.slice ah),.own 77 aC]),(14,Q8),(15,FH)],[],fun _=>0⟩),
 (200003,⟨[(0,.val .str),(2,.val (.slice ah)),(7,.ref 7 0)],[(7,nY)],[],fun _=>0⟩),
 (200008,⟨[(0,.val .str),(7,.ref 7 0)],[(7,nY)],[],fun _=>0⟩),
 (200014,⟨[(12,.own 35 aq)],[],[],fun _=>0⟩)]
def Nz:aA:=⟨[.val .str,.val (.slice ah),.val (.slice ah)],[.val (.slice aq)],fun x=>HD x.1 x.2.1 x.2.2.1⟩
noncomputable def Wo:Cx:=⟨tpr,[(35,xA),(41,B2),(42,zq),(59,ID)],[]⟩
theorem WJ:FB 27 Nz:=fbk Wo SM none (by intro x;kernel_rfl) (cz Bo (cz Hq (cz Dd (cz O6 (.nil _))))) Tryz.func27
def SR:List (Nat×Ann):=[(1,⟨[(1,.ref 1 0),(2,.ref 2 0)],[(1,FH),(2,FH)],[],aI _⟩),
 (200001,⟨[(1,.ref 1 0),(2,.ref 2 0)],[(1,FH),(2,FH)],[],fun _=>0⟩)]
def NF:aA:=⟨[.val bN],[.val bN],fun x=>AU x.1⟩
noncomputable def Wu:Cx:=⟨tpr,[],[]⟩
theorem WO:FB 28 NF:=fbk Wu SR none (by intro x;kernel_rfl) (.nil _) Tryz.func28
def Ch:aA:=⟨[.val aq],[.val ah],fun x=>uo x.1⟩
noncomputable def LB:Cx:=⟨tpr,[],[]⟩
theorem LI:FB 61 Ch:=fbk LB [] none (by intro x;kernel_rfl) (.nil _) Tryz.func61
def Lj:aA:=⟨[.val aq,.val aq],[.val .bool],fun x=>Fj x.1 x.2.1⟩
noncomputable def Vk:Cx:=⟨tpr,[(60,lI),(61,Ch)],[]⟩
theorem Vr:FB 29 Lj:=fbk Vk [] none (by intro x;kernel_rfl) (cz oF (cz LI (.nil _))) Tryz.func29
def PJ:List (Nat×Ann):=[(6,⟨[(1,.val (.slice aO)),(2,.ref 2 0),(7,.own 35 aq),(26,.val (.slice bh)),(27,.val tI),(28,.val tI)],[(2,fL)],[],aI _⟩),
 (12,⟨[(2,.ref 2 0),(7,.own 35 aq),(44,.val (.slice aO)),(45,.val tI),(46,.val tI)],[(2,fL)],[],aI _⟩),
 (20,⟨[(2,.ref 2 0),(7,.own 35 aq),(11,.ref 11 0),(44,.val (.slice aO)),(45,.val tI),(46,.val tI),(84,.val (.slice ah)),(85,.val tI),(86,.val tI)],[(2,fL),(11,DJ)],[],aI _⟩),
 (27,⟨[(15,.own 35 aq),(107,.own 35 aq),(108,.val tI),(109,.val tI)],[],[],aI _⟩),
 (30,⟨[(15,.own 35 aq),(17,.ref 17 0),(18,.val tI),(107,.own 35 aq),(108,.val tI),(109,.val tI)],[(17,aaO)],[],aI _⟩),
 (100016,⟨[(2,.ref 2 0),(7,.own 35 aq),(11,.ref 11 0),(12,.val tI),(44,.val (.slice aO)),(45,.val tI),(46,.val tI)],[(2,fL),(11,DJ)],[],fun _=>0⟩),
 (100018,⟨[(2,.ref 2 0),(7,.own 35 aq),(11,.ref 11 0),(44,.val (.slice aO)),(45,.val tI),(46,.val tI)],[(2,fL),(11,DJ)],[],fun _=>0⟩),
 (200006,⟨[(1,.val (.slice aO)),(2,.ref 2 0),(7,.own 35 aq)],[(2,fL)],[],fun _=>0⟩),
 (200012,⟨[(7,.own 35 aq)],[],[],fun _=>0⟩),
 (200020,⟨[(2,.ref 2 0),(7,.own 35 aq),(44,.val (.slice aO)),(45,.val tI),(46,.val tI)],[(2,fL)],[],fun _=>0⟩),
 (200027,⟨[(15,.own 35 aq)],[],[],fun _=>0⟩),
 (200030,⟨[(15,.own 35 aq),(17,.ref 17 0),(18,.val tI),(107,.own 35 aq),(108,.val tI),(109,.val tI)],[(17,aaO)],[],fun _=>0⟩),
 (300017,⟨[(69,.val .bool)],[],[],fun _=>0⟩),
 (300030,⟨[(125,.val .bool)],[],[],fun _=>0⟩)]
def Jz:aA:=⟨[.val bY,.val (.slice aO)],[.val (.slice aq),.val tI],fun x=>Dk x.1 x.2.1⟩
noncomputable def Tb:Cx:=⟨tpr,[(24,BZ),(25,JB),(26,mS),(27,Nz),(28,NF),(29,Lj),(30,pn)],[]⟩
theorem Tp:FB 5 Jz:=fbk Tb PJ none (by intro x;kernel_rfl) (cz Hp (cz Tq (cz p9 (cz WJ (cz WO (cz Vr (.cons AZ AY (.nil _)))))))) Tryz.func5
def Af:List (Nat×Ann):=[(4,⟨[(0,.val (.slice aq)),(1,.val (.slice aq)),(12,.val tI),(13,.val tI)],[],[],aI _⟩),
 (200004,⟨[],[],[],fun _=>0⟩)]
def qR:aA:=⟨[.val (.slice aq),.val (.slice aq)],[.val .bool],fun x=>iP x.1 x.2.1⟩
noncomputable def Bf:Cx:=⟨tpr,[],[]⟩
theorem Bq:FB 8 qR:=fbk Bf Af none (by intro x;kernel_rfl) (.nil _) Tryz.func8
def xz:aA:=⟨[.map aU aR,.val aU,.val bN],[],fun x=>gP x.1 x.2.1 x.2.2.1⟩
noncomputable def FM:Cx:=⟨tpr,[(74,vo),(75,yO),(76,As)],[]⟩
theorem FV:FB 37 xz:=fbk FM [] none (by intro x;kernel_rfl) (cz yY (cz EO (cz FP (.nil _)))) Tryz.func37
def HN:aA:=⟨[.val bN],[.val bN],fun x=>w5 x.1⟩
noncomputable def Rg:Cx:=⟨tpr,[],[]⟩
theorem Ry:FB 38 HN:=fbk Rg [] none (by intro x;kernel_rfl) (.nil _) Tryz.func38
def Lo:List (Nat×Ann):=[(4,⟨[(0,.mapR 10250000),(4,.own 41 ic),(13,.rowR 12),(14,.val tI),(15,.val tI)],[],[.rowC 12 84 aU,.mapC 10250000 aU aR],aI _⟩),
 (200004,⟨[(4,.own 41 ic)],[],[.mapC 10250000 aU aR],fun _=>0⟩)]
def EV:aA:=⟨[.map aU aR],[.row 41 ic,.val tI],fun x=>yb x.1⟩
noncomputable def OE:Cx:=⟨tpr,[(82,CU)],[(79,aa9),(80,aba)]⟩
theorem OP:FB 40 EV:=fbk OE Lo none (by intro x;kernel_rfl) (.acZ aea ad8 (.acZ aeb ad9 (cz I7 (.nil _)))) Tryz.func40
def JX:List (Nat×Ann):=[(6,⟨[(2,.ref 2 0),(6,.ref 24 0),(8,.mapR 30),(31,.val (.slice aO)),(32,.val tI),(33,.val tI)],[(2,fL),(24,Bb)],[.mapC 30 aU aR],aI _⟩),
 (9,⟨[(2,.ref 2 0),(6,.ref 24 0),(8,.mapR 30),(10,.ref 10 0),(31,.val (.slice aO)),(32,.val tI),(33,.val tI),(38,.val (.slice ah)),(39,.val tI),(40,.val tI)],[(2,fL),(10,DJ),(24,Bb)],[.mapC 30 aU aR],aI _⟩),
 (14,⟨[(2,.ref 2 0),(6,.ref 24 0),(8,.mapR 30),(31,.val (.slice aO)),(32,.val tI),(33,.val tI),(55,.val (.slice ah)),(56,.val tI),(57,.val tI)],[(2,fL),(24,Bb)],[.mapC 30 aU aR],aI _⟩),
 (20,⟨[(6,.ref 24 0),(8,.mapR 30),(74,.val (.slice bh)),(75,.val tI),(76,.val tI)],[(24,Bb)],[.mapC 30 aU aR],aI _⟩),
 (25,⟨[(6,.ref 24 0),(8,.mapR 30),(74,.val (.slice bh)),(75,.val tI),(76,.val tI),(101,.val (.slice ah)),(102,.val tI),(103,.val tI)],[(24,Bb)],[.mapC 30 aU aR],aI _⟩),
 (200006,⟨[(2,.ref 2 0),(6,.ref 24 0),(8,.mapR 30)],[(2,fL),(24,Bb)],[.mapC 30 aU aR],fun _=>0⟩),
 (200009,⟨[(2,.ref 2 0),(6,.ref 24 0),(8,.mapR 30),(10,.ref 10 0),(31,.val (.slice aO)),(32,.val tI),(33,.val tI)],[(2,fL),(10,DJ),(24,Bb)],[.mapC 30 aU aR],fun _=>0⟩),
 (200014,⟨[(2,.ref 2 0),(6,.ref 24 0),(8,.mapR 30),(31,.val (.slice aO)),(32,.val tI),(33,.val tI)],[(2,fL),(24,Bb)],[.mapC 30 aU aR],fun _=>0⟩),
 (200020,⟨[(8,.mapR 30)],[],[.mapC 30 aU aR],fun _=>0⟩),
 (200025,⟨[(6,.ref 24 0),(8,.mapR 30),(74,.val (.slice bh)),(75,.val tI),(76,.val tI)],[(24,Bb)],[.mapC 30 aU aR],fun _=>0⟩),
 (300023,⟨[(99,.val .bool)],[],[],fun _=>0⟩)]
def D8:aA:=⟨[.val bY,.val (.slice aO)],[.val (.slice ic),.val tI],fun x=>mO x.1 x.2.1⟩
noncomputable def Ms:Cx:=⟨tpr,[(13,sB),(13,vK),(15,me),(37,xz),(38,HN),(39,xw),(40,EV)],[]⟩
theorem ME:FB 9 D8:=fbk Ms JX none (by intro x;kernel_rfl) (cz AM (cz Cb (.cons q9 lY (cz FV (cz Ry (cz FU (cz OP (.nil _)))))))) Tryz.func9
def Ls:List (Nat×Ann):=[(3,⟨[(0,.ref 2000 0),(4,.own 41 ic),(12,.rowR 10250001),(13,.val tI),(14,.val tI)],[(2000,Q7)],[.rowC 10250001 68 ah,.rowC 10250002 77 aC],aI _⟩),
 (200003,⟨[(4,.own 41 ic)],[(2000,Q7)],[.rowC 10250001 68 ah,.rowC 10250002 77 aC],fun _=>0⟩)]
def EX:aA:=⟨[.box [.row 68 ah,.row 77 aC]],[.val (.slice ic),.val tI],fun x=>yl x.1⟩
noncomputable def OI:Cx:=⟨tpr,[(59,ID)],[]⟩
theorem OR:FB 45 EX:=fbk OI Ls none (by intro x;kernel_rfl) (cz O6 (.nil _)) Tryz.func45
def Ox:List (Nat×Ann):=[(6,⟨[(1,.val (.slice aO)),(2,.ref 2 0),(7,.ref 7 0),(25,.val (.slice aO)),(26,.val tI),(27,.val tI)],[(2,fL),(7,nY)],[],aI _⟩),
 (9,⟨[(1,.val (.slice aO)),(2,.ref 2 0),(7,.ref 7 0),(9,.ref 9 0),(25,.val (.slice aO)),(26,.val tI),(27,.val tI),(32,.val (.slice ah)),(33,.val tI),(34,.val tI)],[(2,fL),(7,nY),(9,DJ)],[],aI _⟩),
 (14,⟨[(1,.val (.slice aO)),(2,.ref 2 0),(7,.ref 7 0),(25,.val (.slice aO)),(26,.val tI),(27,.val tI),(49,.val (.slice ah)),(50,.val tI),(51,.val tI)],[(2,fL),(7,nY)],[],aI _⟩),
 (20,⟨[(1,.val (.slice aO)),(2,.ref 2 0),(7,.ref 7 0),(68,.val (.slice bh)),(69,.val tI),(70,.val tI)],[(2,fL),(7,nY)],[],aI _⟩),
 (25,⟨[(1,.val (.slice aO)),(2,.ref 2 0),(7,.ref 7 0),(68,.val (.slice bh)),(69,.val tI),(70,.val tI),(97,.val (.slice ah)),(98,.val tI),(99,.val tI)],[(2,fL),(7,nY)],[],aI _⟩),
 (200006,⟨[(1,.val (.slice aO)),(2,.ref 2 0),(7,.ref 7 0)],[(2,fL),(7,nY)],[],fun _=>0⟩),
 (200009,⟨[(1,.val (.slice aO)),(2,.ref 2 0),(7,.ref 7 0),(9,.ref 9 0),(25,.val (.slice aO)),(26,.val tI),(27,.val tI)],[(2,fL),(7,nY),(9,DJ)],[],fun _=>0⟩),
 (200014,⟨[(1,.val (.slice aO)),(2,.ref 2 0),(7,.ref 7 0),(25,.val (.slice aO)),(26,.val tI),(27,.val tI)],[(2,fL),(7,nY)],[],fun _=>0⟩),
 (200020,⟨[(7,.ref 7 0)],[(7,nY)],[],fun _=>0⟩),
 (200025,⟨[(1,.val (.slice aO)),(2,.ref 2 0),(7,.ref 7 0),(68,.val (.slice bh)),(69,.val tI),(70,.val tI)],[(2,fL),(7,nY)],[],fun _=>0⟩),
 (300023,⟨[(95,.val .bool)],[],[],fun _=>0⟩)]
def HO:aA:=⟨[.val bY,.val (.slice aO)],[.val (.slice ic),.val tI],fun x=>w8 x.1 x.2.1⟩
noncomputable def Rh:Cx:=⟨tpr,[(24,BZ),(35,xA),(41,B2),(42,zq),(43,EG),(44,IC),(45,EX)],[]⟩
theorem Rz:FB 10 HO:=fbk Rh Ox none (by intro x;kernel_rfl) (cz Hp (cz Bo (cz Hq (cz Dd (cz K8 (.cons Pc Im (cz OR (.nil _)))))))) Tryz.func10
def DG:List (Nat×Ann):=[(4,⟨[(0,.val (.slice ic)),(1,.val (.slice ic)),(12,.val tI),(13,.val tI)],[],[],aI _⟩),
 (200004,⟨[],[],[],fun _=>0⟩)]
def wC:aA:=⟨[.val (.slice ic),.val (.slice ic)],[.val .bool],fun x=>l8 x.1 x.2.1⟩
noncomputable def E9:Cx:=⟨tpr,[],[]⟩
theorem Fc:FB 11 wC:=fbk E9 DG none (by intro x;kernel_rfl) (.nil _) Tryz.func11
def PI:List (Nat×Ann):=[(5,⟨[(4,.val tI),(15,.val tI),(16,.val tI)],[],[],aI _⟩),
 (200005,⟨[(4,.val tI)],[],[],fun _=>0⟩)]
def Jy:aA:=⟨[.val .str],[.val tI,.val .bool],fun x=>Ph x.1⟩
noncomputable def S9:Cx:=⟨tpr,[(141,BX)],[]⟩
theorem To:FB 85 Jy:=fbk S9 PI none (by intro x;kernel_rfl) (cz Ho (.nil _)) Tryz.func85
def IK:List (Nat×Ann):=[(16,⟨[(0,.val tI),(1,.val .str),(49,.val tI)],[],[],aI _⟩),
 (200016,⟨[],[],[],fun _=>0⟩)]
def Cd:aA:=⟨[.val tI,.val .str],[.val .str,.val tI],fun x=>FC x.1 x.2.1⟩
noncomputable def Lt:Cx:=⟨tpr,[(87,wE),(143,Av),(144,GF),(145,BW),(146,GG),(147,Au),(148,xo)],[]⟩
theorem LD:FB 88 Cd:=fbk Lt IK none (by intro x;kernel_rfl) (.cons Hw Hr (cz FQ (.cons Qs Qm (.cons KD Kr (.cons Qt Qn (.cons Ge F7 (cz DN (.nil _)))))))) Tryz.func88
def EU:aA:=⟨[.val .str,.val tI],[.val .str,.val tI],fun x=>Jh x.1 x.2.1⟩
noncomputable def OD:Cx:=⟨tpr,[(85,Jy),(86,su),(87,wE),(88,Cd),(89,yM)],[]⟩
theorem OO:FB 46 EU:=fbk OD [] none (by intro x;kernel_rfl) (cz To (cz xU (.cons Hw Hr (cz LD (.cons OU OS (.nil _)))))) Tryz.func46
def Ny:aA:=⟨[],[.val .bool],fun _=>MY⟩
noncomputable def Wn:Cx:=⟨tpr,[(46,EU)],[]⟩
theorem WI:FB 12 Ny:=fbk Wn [] none (by intro x;kernel_rfl) (cz OO (.nil _)) Tryz.func12
def B9:List (Nat×Ann):=[(300007,⟨[(4,.val .bool)],[],[],fun _=>0⟩)]
def s6:aA:=⟨[.val bY,.val (.slice aO)],[.val .bool],fun x=>kD x.1 x.2.1⟩
noncomputable def DM:Cx:=⟨tpr,[(4,ET),(5,Jz),(6,nM),(7,yL),(8,qR),(9,D8),(10,HO),(11,wC),(12,Ny)],[]⟩
theorem Cr:Zx DM B9 none Tryz.f3 s6:=by intro x;kernel_rfl
theorem DW:cQ tpr 3 s6:=Ro Cr (cz ON (cz Tp (cz tG (cz EM (cz Bq (cz ME (cz Rz (cz Fc (cz WI (.nil _)))))))))) abp Tryz.func3
end Go.Proofs.SeatU
end
