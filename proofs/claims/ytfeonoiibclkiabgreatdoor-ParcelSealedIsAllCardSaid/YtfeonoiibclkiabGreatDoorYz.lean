/-
  Each function that the law reaches is as its plain model says, a further part. No condition.
-/
import Derived.Test.YtfeonoiibclkiabGreatDoorYy
import Derived.Test.YtfeonoiibclkiabGreatDoorYx
set_option linter.all false
set_option maxRecDepth 100000
noncomputable section
namespace Go.Proofs.SeatU
open Go.Dn Go.Md Go.Proofs
def I5:List CK:=[.val .bool,.own 148 (.int .u32)]
def zT:List CK:=[.val .bool,.val (.slice (.int .u32))]
def I6:List CK:=[.val .str,.val .bool,.val (.slice bu),.val (.slice bu)]
def kP:List CK:=[.val .str,.val .str,.val tI,.val (.slice bV),.val (.slice bE)]
def tK:List CK:=[.val .str,.val .str,.val tI,.val (.slice bV)]
def xJ:List (Nat×Ann):=[(11,⟨[(3,.ref 3 0),(6,.val (.slice ax)),(54,.val (.slice bu)),(55,.val tI),(56,.val tI)],[(3,I6),(2000,kP)],[],aY _⟩),
 (100005,⟨[(3,.ref 3 0),(6,.val (.slice ax))],[(3,I6),(2000,kP)],[],fun _=>0⟩),
 (200011,⟨[(6,.val (.slice ax))],[(2000,kP)],[],fun _=>0⟩)]
def kG:aB:=⟨[.box [.val bF,.val (.slice bE)],.val bE],[.val (.slice ax),.val tI],fun x=>gj x.1 x.2.1⟩
noncomputable def yZ:Cx:=⟨tpr,[(30,fJ),(33,AG),(34,wm),(35,mY)],[]⟩
theorem yt:aS yZ xJ none Tryz.f15 kG:=by intro x;kernel_rfl
theorem zi:av tpr 15:=an Tryz.func15 rfl (by decide)
theorem zl:aH tpr 15 kG:=aJ yt (.cons jh je (.cons Iz Iq (.cons Dk C3 (.cons vU vN (.nil _))))) aN Tryz.func15
def uZ:aB:=⟨[.val tI],[.val .bool],fun x=>cmp_isNaN_int x.1⟩
noncomputable def HW:Cx:=⟨tpr,[],[]⟩
theorem GP:aS HW [] none Tryz.f38 uZ:=by intro x;kernel_rfl
theorem Io:av tpr 38:=an Tryz.func38 rfl (by decide)
theorem Ix:aH tpr 38 uZ:=aJ GP (.nil _) aN Tryz.func38
def su:aB:=⟨[.val tI,.val tI],[.val tI],fun x=>A6 x.1 x.2.1⟩
noncomputable def E1:Cx:=⟨tpr,[(38,uZ)],[]⟩
theorem Ef:aS E1 [] none Tryz.f20 su:=by intro x;kernel_rfl
theorem Fs:av tpr 20:=an Tryz.func20 rfl (by decide)
theorem FJ:aH tpr 20 su:=aJ Ef (.cons Ix Io (.nil _)) aN Tryz.func20
def lZ:aB:=⟨[.val ax,.val ax],[.val tI],fun x=>kW x.1 x.2.1⟩
noncomputable def D8:Cx:=⟨tpr,[(18,uA),(19,gM),(20,su)],[]⟩
theorem CN:aS D8 [] none Tryz.f17 lZ:=by intro x;kernel_rfl
theorem wD:av tpr 17:=an Tryz.func17 rfl (by decide)
theorem wF:aH tpr 17 lZ:=aJ CN (.cons DV DQ (.cons mM mH (.cons FJ Fs (.nil _)))) aN Tryz.func17
def l7:List (Nat×Ann):=[(1,⟨[(0,.rowR 10250000),(1,.val tI),(2,.val tI),(3,.val (.clo 17 .unit)),(8,.val tI)],[],[.rowC 10250000 54 ax],aY _⟩),
 (4,⟨[(0,.rowR 10250000),(1,.val tI),(2,.val tI),(3,.val (.clo 17 .unit)),(8,.val tI),(9,.val tI)],[],[.rowC 10250000 54 ax],aY _⟩),
 (200001,⟨[],[],[.rowC 10250000 54 ax],fun _=>0⟩),
 (200004,⟨[(0,.rowR 10250000),(1,.val tI),(2,.val tI),(3,.val (.clo 17 .unit)),(8,.val tI)],[],[.rowC 10250000 54 ax],fun _=>0⟩)]
def dA:aB:=⟨[.mrow 54 ax,.val tI,.val tI,.val (.clo 17 .unit)],[],fun x=>dP x.1 x.2.1 x.2.2.1 x.2.2.2.1⟩
noncomputable def mD:Cx:=⟨tpr,[(17,lZ)],[]⟩
theorem mc:aS mD l7 none Tryz.f71 dA:=by intro x;kernel_rfl
theorem mG:av tpr 71:=an Tryz.func71 rfl (by decide)
theorem mL:aH tpr 71 dA:=aJ mc (.cons wF wD (.nil _)) aN Tryz.func71
def nH:List (Nat×Ann):=[(1,⟨[(0,.rowR 10250000),(1,.val tI),(2,.val tI),(3,.val tI),(10,.val tI)],[],[.rowC 10250000 54 ax],aY _⟩),
 (200001,⟨[],[],[.rowC 10250000 54 ax],fun _=>0⟩)]
def er:aB:=⟨[.mrow 54 ax,.val tI,.val tI,.val tI,.val (.clo 17 .unit)],[],fun x=>cR x.1 x.2.1 x.2.2.1 x.2.2.2.1 x.2.2.2.2.1⟩
noncomputable def oy:Cx:=⟨tpr,[],[]⟩
theorem nU:aS oy nH none Tryz.f139 er:=by intro x;kernel_rfl
theorem oA:av tpr 139:=an Tryz.func139 rfl (by decide)
theorem oB:aH tpr 139 er:=aJ nU (.nil _) aN Tryz.func139
def oS:List (Nat×Ann):=[(2,⟨[(0,.rowR 10250000),(2,.val tI),(4,.val (.clo 17 .unit)),(10,.val tI),(11,.val tI)],[],[.rowC 10250000 54 ax],aY _⟩),
 (200002,⟨[(0,.rowR 10250000),(2,.val tI),(4,.val (.clo 17 .unit)),(10,.val tI)],[],[.rowC 10250000 54 ax],fun _=>0⟩)]
def fm:aB:=⟨[.mrow 54 ax,.val tI,.val tI,.val tI,.val (.clo 17 .unit)],[],fun x=>jy x.1 x.2.1 x.2.2.1 x.2.2.2.1 x.2.2.2.2.1⟩
noncomputable def qK:Cx:=⟨tpr,[(139,er)],[]⟩
theorem qh:aS qK oS none Tryz.f108 fm:=by intro x;kernel_rfl
theorem qM:av tpr 108:=an Tryz.func108 rfl (by decide)
theorem qO:aH tpr 108 fm:=aJ qh (.cons oB oA (.nil _)) aN Tryz.func108
def gC:List (Nat×Ann):=[(3,⟨[(0,.rowR 10250000),(1,.val tI),(4,.val (.clo 17 .unit)),(10,.val tI),(11,.val tI)],[],[.rowC 10250000 54 ax],aY _⟩),
 (9,⟨[(0,.rowR 10250000),(10,.val tI),(13,.val tI)],[],[.rowC 10250000 54 ax],aY _⟩),
 (15,⟨[(0,.rowR 10250000),(2,.val tI),(4,.val (.clo 17 .unit)),(14,.val tI),(15,.val tI)],[],[.rowC 10250000 54 ax],aY _⟩),
 (21,⟨[(0,.rowR 10250000),(14,.val tI),(17,.val tI)],[],[.rowC 10250000 54 ax],aY _⟩),
 (33,⟨[(0,.rowR 10250000),(1,.val tI),(2,.val tI),(3,.val tI),(4,.val (.clo 17 .unit)),(18,.val tI),(19,.val tI),(20,.val tI),(21,.val tI),(22,.val tI)],[],[.rowC 10250000 54 ax],aY _⟩),
 (100030,⟨[(0,.rowR 10250000),(1,.val tI),(2,.val tI),(3,.val tI),(4,.val (.clo 17 .unit)),(18,.val tI),(19,.val tI),(20,.val tI),(21,.val tI)],[],[.rowC 10250000 54 ax],fun _=>0⟩),
 (100040,⟨[(0,.rowR 10250000),(1,.val tI),(3,.val tI),(4,.val (.clo 17 .unit)),(18,.val tI),(20,.val tI),(24,.val tI)],[],[.rowC 10250000 54 ax],fun _=>0⟩),
 (100042,⟨[(0,.rowR 10250000),(3,.val tI),(4,.val (.clo 17 .unit)),(18,.val tI),(24,.val tI)],[],[.rowC 10250000 54 ax],fun _=>0⟩),
 (200003,⟨[(0,.rowR 10250000),(1,.val tI),(10,.val tI)],[],[.rowC 10250000 54 ax],fun _=>0⟩),
 (200009,⟨[],[],[.rowC 10250000 54 ax],fun _=>0⟩),
 (200015,⟨[(0,.rowR 10250000),(2,.val tI),(14,.val tI)],[],[.rowC 10250000 54 ax],fun _=>0⟩),
 (200021,⟨[],[],[.rowC 10250000 54 ax],fun _=>0⟩),
 (200033,⟨[(0,.rowR 10250000),(1,.val tI),(2,.val tI),(3,.val tI),(4,.val (.clo 17 .unit)),(18,.val tI),(19,.val tI),(20,.val tI)],[],[.rowC 10250000 54 ax],fun _=>0⟩),
 (300039,⟨[(185,.val .bool)],[],[],fun _=>0⟩),
 (300041,⟨[(199,.val .bool)],[],[],fun _=>0⟩),
 (300043,⟨[(213,.val .bool)],[],[],fun _=>0⟩)]
def bA:List PM:=[.mrow 54 ax,.val tI,.val tI,.val tI,.val (.clo 17 .unit)]
def bK:List RM:=[]
noncomputable def gR:List (Nat×aB):=[(17,lZ),(108,fm)]
def ig:aB:=⟨bA,bK,fun x=>fB x.1 x.2.1 x.2.2.1 x.2.2.2.1 x.2.2.2.2.1⟩
theorem oz:∀ (self:cZ bA→Option (b8 bA bK)) (x:cZ bA),E7 ⟨tpr,(72,⟨bA,bK,self⟩)::gR,[]⟩ gC none Tryz.f72 ⟨bA,bK,fun x=>b5 self x.1 x.2.1 x.2.2.1 x.2.2.2.1 x.2.2.2.2.1⟩ x=b5 self x.1 x.2.1 x.2.2.1 x.2.2.2.1 x.2.2.2.2.1:=by intro self x;kernel_rfl
theorem gX:av tpr 72:=an Tryz.func72 rfl (by decide)
theorem pn:aH tpr 72 ig:=Ht (ps:=bA) (rs:=bK) (m:=fun n x=>wg (fun self x=>b5 self x.1 x.2.1 x.2.2.1 x.2.2.2.1 x.2.2.2.2.1) n x) (C1 (P:=Tryz.prog) (specs:=gR) (ps:=bA) (rs:=bK) (.cons wF wD (.cons qO qM (.nil _))) (by kernel_rfl) (fun self x=>b5 self x.1 x.2.1 x.2.2.1 x.2.2.2.1 x.2.2.2.2.1) gC none (by kernel_rfl) gX oz) (fun x=>gK x.1 x.2.1 x.2.2.1 x.2.2.2.1 x.2.2.2.2.1)
def oT:List (Nat×Ann):=[(2,⟨[(0,.rowR 10250000),(1,.val tI),(2,.val (.clo 17 .unit)),(6,.val tI),(7,.val tI),(8,.val tI)],[],[.rowC 10250000 54 ax],aY _⟩),
 (7,⟨[(0,.rowR 10250000),(1,.val tI),(2,.val (.clo 17 .unit)),(6,.val tI)],[],[.rowC 10250000 54 ax],aY _⟩),
 (9,⟨[(0,.rowR 10250000),(1,.val tI),(2,.val (.clo 17 .unit)),(6,.val tI),(7,.val tI),(8,.val tI)],[],[.rowC 10250000 54 ax],aY _⟩),
 (200002,⟨[(0,.rowR 10250000),(1,.val tI),(2,.val (.clo 17 .unit)),(6,.val tI),(7,.val tI)],[],[.rowC 10250000 54 ax],fun _=>0⟩),
 (200007,⟨[],[],[.rowC 10250000 54 ax],fun _=>0⟩),
 (200009,⟨[(0,.rowR 10250000),(1,.val tI),(2,.val (.clo 17 .unit)),(6,.val tI),(7,.val tI)],[],[.rowC 10250000 54 ax],fun _=>0⟩)]
def fo:aB:=⟨[.mrow 54 ax,.val tI,.val (.clo 17 .unit)],[],fun x=>jA x.1 x.2.1 x.2.2.1⟩
noncomputable def qL:Cx:=⟨tpr,[(71,dA),(72,ig)],[]⟩
theorem qi:aS qL oT none Tryz.f36 fo:=by intro x;kernel_rfl
theorem qN:av tpr 36:=an Tryz.func36 rfl (by decide)
theorem qP:aH tpr 36 fo:=aJ qi (.cons mL mG (.cons pn gX (.nil _))) aN Tryz.func36
def eL:aB:=⟨[.mrow 54 ax,.val (.clo 17 .unit)],[],fun x=>fI x.1 x.2.1⟩
noncomputable def qg:Cx:=⟨tpr,[(36,fo)],[]⟩
theorem oW:aS qg [] none Tryz.f16 eL:=by intro x;kernel_rfl
theorem qm:av tpr 16:=an Tryz.func16 rfl (by decide)
theorem qs:aH tpr 16 eL:=aJ oW (.cons qP qN (.nil _)) aN Tryz.func16
def D4:List (Nat×Ann):=[(6,⟨[(1,.val (.slice bE)),(2,.ref 2 0),(6,.ref 6 0),(8,.own 54 ax),(27,.val (.slice bV)),(28,.val tI),(29,.val tI)],[(2,tK),(6,[.ref 20 0]),(20,kP)],[],aY _⟩),
 (13,⟨[(6,.ref 6 0),(8,.own 54 ax),(57,.val (.slice bE)),(58,.val tI),(59,.val tI)],[(6,[.ref 20 0]),(20,kP)],[],aY _⟩),
 (200006,⟨[(1,.val (.slice bE)),(6,.ref 6 0),(8,.own 54 ax)],[(6,[.ref 20 0]),(20,kP)],[],fun _=>0⟩),
 (200013,⟨[(8,.own 54 ax)],[],[],fun _=>0⟩)]
def tj:aB:=⟨[.val bF,.val (.slice bE)],[.val (.slice ax),.val tI],fun x=>kN x.1 x.2.1⟩
noncomputable def GD:Cx:=⟨tpr,[(10,jB),(10,l6),(11,lp),(12,iZ),(13,iP),(15,kG),(16,eL)],[]⟩
theorem E9:aS GD D4 none Tryz.f4 tj:=by intro x;kernel_rfl
theorem GX:av tpr 4:=an Tryz.func4 rfl (by decide)
theorem G8:aH tpr 4 tj:=aJ E9 (.cons vo vm (.cons wG wE (.cons uR uO (.cons ny iV (.cons wU wQ (.cons zl zi (.cons qs qm (.nil _)))))))) aN Tryz.func4
def HO:List (Nat×Ann):=[(5,⟨[(4,.val tI),(15,.val tI),(16,.val tI)],[],[],aY _⟩),
 (200005,⟨[(4,.val tI)],[],[],fun _=>0⟩)]
def xd:aB:=⟨[.val .str],[.val tI,.val .bool],fun x=>HC x.1⟩
noncomputable def Ks:Cx:=⟨tpr,[(74,rE)],[]⟩
theorem Ji:aS Ks HO none Tryz.f39 xd:=by intro x;kernel_rfl
theorem KH:av tpr 39:=an Tryz.func39 rfl (by decide)
theorem K0:aH tpr 39 xd:=aJ Ji (.cons Be A7 (.nil _)) aN Tryz.func39
def BN:List (Nat×Ann):=[(16,⟨[(0,.val tI),(1,.val .str),(49,.val tI)],[],[],aY _⟩),
 (200016,⟨[],[],[],fun _=>0⟩)]
def q7:aB:=⟨[.val tI,.val .str],[.val .str,.val tI],fun x=>zN x.1 x.2.1⟩
noncomputable def D6:Cx:=⟨tpr,[(41,rF),(76,pR),(77,AB),(78,wh),(79,AD),(80,uY),(81,mZ)],[]⟩
theorem CJ:aS D6 BN none Tryz.f42 q7:=by intro x;kernel_rfl
theorem El:av tpr 42:=an Tryz.func42 rfl (by decide)
theorem Er:aH tpr 42 q7:=aJ CJ (.cons Bf A8 (.cons Am Ad (.cons Iv Il (.cons Dj C2 (.cons Iw Im (.cons Al Ac (.cons xZ xQ (.nil _)))))))) aN Tryz.func42
def tq:aB:=⟨[.val .str,.val tI],[.val .str,.val tI],fun x=>Cd x.1 x.2.1⟩
noncomputable def GF:Cx:=⟨tpr,[(39,xd),(40,kO),(41,rF),(42,q7),(43,tv)],[]⟩
theorem Fa:aS GF [] none Tryz.f21 tq:=by intro x;kernel_rfl
theorem GY:av tpr 21:=an Tryz.func21 rfl (by decide)
theorem G9:aH tpr 21 tq:=aJ Fa (.cons K0 KH (.cons sV sQ (.cons Bf A8 (.cons Er El (.cons Hf G5 (.nil _)))))) aN Tryz.func21
def AF:aB:=⟨[],[.val .bool],fun x=>Bb ⟩
noncomputable def M8:Cx:=⟨tpr,[(21,tq)],[]⟩
theorem Mk:aS M8 [] none Tryz.f6 AF:=by intro x;kernel_rfl
theorem Nn:av tpr 6:=an Tryz.func6 rfl (by decide)
theorem NH:aH tpr 6 AF:=aJ Mk (.cons G9 GY (.nil _)) aN Tryz.func6
def pT:aB:=⟨[.val bF,.val .str,.val .bool],[.val tI],fun x=>jU x.1 x.2.1 x.2.2.1⟩
noncomputable def CE:Cx:=⟨tpr,[(28,gL),(30,fJ)],[]⟩
theorem B0:aS CE [] none Tryz.f22 pT:=by intro x;kernel_rfl
theorem C5:av tpr 22:=an Tryz.func22 rfl (by decide)
theorem Dm:aH tpr 22 pT:=aJ B0 (.cons nY nV (.cons jh je (.nil _))) aN Tryz.func22
def sB:aB:=⟨[.val bF,.val tI,.val .str],[.val .bool],fun x=>rC x.1 x.2.1 x.2.2.1⟩
noncomputable def E3:Cx:=⟨tpr,[(11,lp),(13,jH)],[]⟩
theorem Eh:aS E3 [] none Tryz.f44 sB:=by intro x;kernel_rfl
theorem Fv:av tpr 44:=an Tryz.func44 rfl (by decide)
theorem FL:aH tpr 44 sB:=aJ Eh (.cons uR uO (.cons yz yy (.nil _))) aN Tryz.func44
def tu:aB:=⟨[.val bF,.val tI,.val .str],[.val .bool],fun x=>iN x.1 x.2.1 x.2.2.1⟩
noncomputable def GG:Cx:=⟨tpr,[(44,sB)],[]⟩
theorem Fb:aS GG [] none Tryz.f23 tu:=by intro x;kernel_rfl
theorem GZ:av tpr 23:=an Tryz.func23 rfl (by decide)
theorem He:aH tpr 23 tu:=aJ Fb (.cons FL Fv (.nil _)) aN Tryz.func23
def ic:aB:=⟨[.map aG aA,.val aG,.val cz],[],fun x=>dM x.1 x.2.1 x.2.2.1⟩
noncomputable def zX:Cx:=⟨tpr,[(45,nF),(46,nP),(47,pQ)],[]⟩
theorem zg:aS zX [] none Tryz.f24 ic:=by intro x;kernel_rfl
theorem rO:av tpr 24:=an Tryz.func24 rfl (by decide)
theorem rT:aH tpr 24 ic:=aJ zg (.cons tV tP (.cons yM yI (.cons Ak Ab (.nil _)))) aN Tryz.func24
def GB:List (Nat×Ann):=[(4,⟨[(2,.ref 2 0),(3,.ref 3 0),(4,.ref 4 0),(5,.ref 5 0),(6,.rowR 12),(7,.val (.slice (.int .u32))),(8,.val tI)],[(2,zT),(3,zT),(4,I5),(5,I5)],[.rowC 12 148 (.int .u32)],aY _⟩),
 (200004,⟨[(4,.ref 4 0),(5,.ref 5 0),(6,.rowR 12),(7,.val (.slice (.int .u32)))],[(4,I5),(5,I5)],[.rowC 12 148 (.int .u32)],fun _=>0⟩)]
def wu:aB:=⟨[.val aA,.val aA],[.val aA,.val aA],fun x=>sG x.1 x.2.1⟩
noncomputable def Jd:Cx:=⟨tpr,[(89,jI),(90,AH),(91,pX),(92,uC),(121,lz)],[]⟩
theorem Ie:aS Jd GB none Tryz.f125 wu:=by intro x;kernel_rfl
theorem JB:av tpr 125:=an Tryz.func125 rfl (by decide)
theorem JQ:aH tpr 125 wu:=aJ Ie (.cons qu qo (.cons NI No (.cons Aq Ag (.cons DX DS (.cons uS uP (.nil _)))))) aN Tryz.func125
def EJ:List (Nat×Ann):=[(5,⟨[(1,.val tI),(2,.ref 2 0),(6,.val (.int .u64)),(14,.val (.slice (.int .u32))),(15,.val tI),(16,.val tI)],[(2,zT)],[],aY _⟩),
 (200005,⟨[(1,.val tI),(2,.ref 2 0),(6,.val (.int .u64))],[(2,zT)],[],fun _=>0⟩)]
def u6:aB:=⟨[.val aA,.val tI],[.val tI,.val .bool],fun x=>uG x.1 x.2.1⟩
noncomputable def HZ:Cx:=⟨tpr,[],[]⟩
theorem GS:aS HZ EJ none Tryz.f157 u6:=by intro x;kernel_rfl
theorem Ir:av tpr 157:=an Tryz.func157 rfl (by decide)
theorem IA:aH tpr 157 u6:=aJ GS (.nil _) aN Tryz.func157
def w8:aB:=⟨[.val aA,.val tI],[.val cz,.val tI],fun x=>tG x.1 x.2.1⟩
noncomputable def Ko:Cx:=⟨tpr,[(157,u6)],[]⟩
theorem Je:aS Ko [] none Tryz.f126 w8:=by intro x;kernel_rfl
theorem KE:av tpr 126:=an Tryz.func126 rfl (by decide)
theorem KX:aH tpr 126 w8:=aJ Je (.cons IA Ir (.nil _)) aN Tryz.func126
def EG:List (Nat×Ann):=[(2,⟨[(1,.val tI),(2,.ref 2 0),(4,.ref 4 0),(6,.ref 6 0)],[(2,zT),(4,[.val tI,.val tI]),(6,zT)],[],aY _⟩),
 (200002,⟨[(1,.val tI),(2,.ref 2 0),(4,.ref 4 0)],[(2,zT),(4,[.val tI,.val tI])],[],fun _=>0⟩)]
def uX:aB:=⟨[.val aA,.val tI],[.val cz,.val tI],fun x=>uj x.1 x.2.1⟩
noncomputable def HT:Cx:=⟨tpr,[(45,nF),(69,nQ),(107,nc),(125,wu),(126,w8)],[]⟩
theorem GM:aS HT EG none Tryz.f98 uX:=by intro x;kernel_rfl
theorem Ik:av tpr 98:=an Tryz.func98 rfl (by decide)
theorem Iu:aH tpr 98 uX:=aJ GM (.cons tV tP (.cons yN yJ (.cons x4 xR (.cons JQ JB (.cons KX KE (.nil _)))))) aN Tryz.func98
def xe:aB:=⟨[.val aA],[.val cz,.val tI],fun x=>xF x.1⟩
noncomputable def Kt:Cx:=⟨tpr,[(98,uX)],[]⟩
theorem Jj:aS Kt [] none Tryz.f51 xe:=by intro x;kernel_rfl
theorem KI:av tpr 51:=an Tryz.func51 rfl (by decide)
theorem K1:aH tpr 51 xe:=aJ Jj (.cons Iu Ik (.nil _)) aN Tryz.func51
def D5:List (Nat×Ann):=[(4,⟨[(0,.mapR 10250000),(4,.own 40 jb),(13,.rowR 12),(14,.val tI),(15,.val tI)],[],[.rowC 12 73 aG,.mapC 10250000 aG aA],aY _⟩),
 (200004,⟨[(4,.own 40 jb)],[],[.mapC 10250000 aG aA],fun _=>0⟩)]
def nN:aB:=⟨[.map aG aA],[.row 40 jb,.val tI],fun x=>oo x.1⟩
noncomputable def GH:Cx:=⟨tpr,[(51,xe)],[(48,QN),(49,QO)]⟩
theorem Fc:aS GH D5 none Tryz.f25 nN:=by intro x;kernel_rfl
theorem yG:av tpr 25:=an Tryz.func25 rfl (by decide)
theorem yK:aH tpr 25 nN:=aJ Fc (.R6 Th Tf (.R6 Ti Tg (.cons K1 KI (.nil _)))) aN Tryz.func25
def EH:List (Nat×Ann):=[(6,⟨[(1,.val .str),(2,.ref 2 0),(7,.mapR 18),(20,.val (.slice bV)),(21,.val tI),(22,.val tI)],[(2,tK)],[.mapC 18 aG aA],aY _⟩),
 (10,⟨[(1,.val .str),(2,.ref 2 0),(7,.mapR 18),(20,.val (.slice bV)),(21,.val tI),(22,.val tI),(33,.val (.slice bu)),(34,.val tI),(35,.val tI)],[(2,tK)],[.mapC 18 aG aA],aY _⟩),
 (200006,⟨[(7,.mapR 18)],[],[.mapC 18 aG aA],fun _=>0⟩),
 (200010,⟨[(1,.val .str),(2,.ref 2 0),(7,.mapR 18),(20,.val (.slice bV)),(21,.val tI),(22,.val tI)],[(2,tK)],[.mapC 18 aG aA],fun _=>0⟩)]
def u5:aB:=⟨[.val bF,.val .str],[.val (.slice jb),.val tI],fun x=>ux x.1 x.2.1⟩
noncomputable def HX:Cx:=⟨tpr,[(22,pT),(23,tu),(24,ic),(25,nN)],[]⟩
theorem GQ:aS HX EH none Tryz.f7 u5:=by intro x;kernel_rfl
theorem Ip:av tpr 7:=an Tryz.func7 rfl (by decide)
theorem Iy:aH tpr 7 u5:=aJ GQ (.cons Dm C5 (.cons He GZ (.cons rT rO (.cons yK yG (.nil _))))) aN Tryz.func7
def wo:aB:=⟨[.val cz],[.val cz],fun x=>FU x.1⟩
noncomputable def Jc:Cx:=⟨tpr,[],[]⟩
theorem Ic:aS Jc [] none Tryz.f26 wo:=by intro x;kernel_rfl
theorem Jy:av tpr 26:=an Tryz.func26 rfl (by decide)
theorem JO:aH tpr 26 wo:=aJ Ic (.nil _) aN Tryz.func26
def Cy:List (Nat×Ann):=[(6,⟨[(2,.ref 2 0),(6,.ref 24 0),(8,.mapR 30),(31,.val (.slice bE)),(32,.val tI),(33,.val tI)],[(2,tK),(24,kP)],[.mapC 30 aG aA],aY _⟩),
 (9,⟨[(2,.ref 2 0),(6,.ref 24 0),(8,.mapR 30),(10,.ref 10 0),(31,.val (.slice bE)),(32,.val tI),(33,.val tI),(38,.val (.slice bu)),(39,.val tI),(40,.val tI)],[(2,tK),(10,I6),(24,kP)],[.mapC 30 aG aA],aY _⟩),
 (14,⟨[(2,.ref 2 0),(6,.ref 24 0),(8,.mapR 30),(31,.val (.slice bE)),(32,.val tI),(33,.val tI),(55,.val (.slice bu)),(56,.val tI),(57,.val tI)],[(2,tK),(24,kP)],[.mapC 30 aG aA],aY _⟩),
 (20,⟨[(6,.ref 24 0),(8,.mapR 30),(74,.val (.slice bV)),(75,.val tI),(76,.val tI)],[(24,kP)],[.mapC 30 aG aA],aY _⟩),
 (25,⟨[(6,.ref 24 0),(8,.mapR 30),(74,.val (.slice bV)),(75,.val tI),(76,.val tI),(101,.val (.slice bu)),(102,.val tI),(103,.val tI)],[(24,kP)],[.mapC 30 aG aA],aY _⟩),
 (200006,⟨[(2,.ref 2 0),(6,.ref 24 0),(8,.mapR 30)],[(2,tK),(24,kP)],[.mapC 30 aG aA],fun _=>0⟩),
 (200009,⟨[(2,.ref 2 0),(6,.ref 24 0),(8,.mapR 30),(10,.ref 10 0),(31,.val (.slice bE)),(32,.val tI),(33,.val tI)],[(2,tK),(10,I6),(24,kP)],[.mapC 30 aG aA],fun _=>0⟩),
 (200014,⟨[(2,.ref 2 0),(6,.ref 24 0),(8,.mapR 30),(31,.val (.slice bE)),(32,.val tI),(33,.val tI)],[(2,tK),(24,kP)],[.mapC 30 aG aA],fun _=>0⟩),
 (200020,⟨[(8,.mapR 30)],[],[.mapC 30 aG aA],fun _=>0⟩),
 (200025,⟨[(6,.ref 24 0),(8,.mapR 30),(74,.val (.slice bV)),(75,.val tI),(76,.val tI)],[(24,kP)],[.mapC 30 aG aA],fun _=>0⟩),
 (300023,⟨[(99,.val .bool)],[],[],fun _=>0⟩)]
def sA:aB:=⟨[.val bF,.val (.slice bE)],[.val (.slice jb),.val tI],fun x=>rB x.1 x.2.1⟩
noncomputable def E2:Cx:=⟨tpr,[(10,jB),(10,l6),(12,iZ),(24,ic),(25,nN),(26,wo),(27,lu)],[]⟩
theorem Eg:aS E2 Cy none Tryz.f8 sA:=by intro x;kernel_rfl
theorem Fu:av tpr 8:=an Tryz.func8 rfl (by decide)
theorem FK:aH tpr 8 sA:=aJ Eg (.cons vo vm (.cons wG wE (.cons ny iV (.cons rT rO (.cons yK yG (.cons JO Jy (.cons Ap Af (.nil _)))))))) aN Tryz.func8
def xK:List (Nat×Ann):=[(4,⟨[(0,.val (.slice jb)),(1,.val (.slice jb)),(12,.val tI),(13,.val tI)],[],[],aY _⟩),
 (200004,⟨[],[],[],fun _=>0⟩)]
def kH:aB:=⟨[.val (.slice jb),.val (.slice jb)],[.val .bool],fun x=>iX x.1 x.2.1⟩
noncomputable def y8:Cx:=⟨tpr,[],[]⟩
theorem yw:aS y8 xK none Tryz.f9 kH:=by intro x;kernel_rfl
theorem zj:av tpr 9:=an Tryz.func9 rfl (by decide)
theorem zm:aH tpr 9 kH:=aJ yw (.nil _) aN Tryz.func9
def yl:List (Nat×Ann):=[(300003,⟨[(2,.val .bool)],[],[],fun _=>0⟩),
 (300006,⟨[(2,.val .bool)],[],[],fun _=>0⟩)]
def sw:aB:=⟨[.val bF],[.val .bool],fun x=>jv x.1⟩
noncomputable def zU:Cx:=⟨tpr,[(4,tj),(5,yC),(6,AF),(7,u5),(8,sA),(9,kH)],[]⟩
theorem zb:aS zU yl none Tryz.f3 sw:=by intro x;kernel_rfl
theorem An:aH tpr 3 sw:=aJ zb (.cons G8 GX (.cons Mo Mm (.cons NH Nn (.cons Iy Ip (.cons FK Fu (.cons zm zj (.nil _))))))) aN Tryz.func3
end Go.Proofs.SeatU
end
