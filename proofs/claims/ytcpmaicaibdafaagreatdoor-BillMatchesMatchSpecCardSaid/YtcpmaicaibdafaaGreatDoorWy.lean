/-
  Each function that the laws reach is as its plain model says, a further part. No condition.
-/
import Derived.Test.YtcpmaicaibdafaaGreatDoorWw
set_option linter.all false
set_option maxRecDepth 100000
noncomputable section
namespace Go.Proofs.SeatA
open Go.Dn Go.Md Go.Proofs
def IS:List CK:=[.val .bool,.own 203 (.int .u32)]
def q9:List CK:=[.val .bool,.val (.slice (.int .u32))]
def aaZ:List CK:=[.val .str,.val .str,.val .str,.val tI,.val tI,.val (.slice eS),.val (.slice ay),.map tI .hnd,.own 244 an,.own 258 cI,.val tI]
def aa0:List CK:=[.val .str,.val .str,.val .str,.val tI,.val tI,.val (.slice eS),.val (.slice ay),.mapR 10250003,.rowR 10250004,.rowR 10250005,.val tI]
def Q8:List CK:=[.val .str,.val .str,.val .str,.val tI,.val tI,.val (.slice eS),.val (.slice ay),.val tI,.val tI,.val (.slice aC),.map tI (.slice bz),.map tI bh,.own 37 bQ]
def Q9:List CK:=[.val tI,.val tI,.val tI,.val (.slice .str)]
def IT:List CK:=[.val tI,.val tI]
def Jv:au:=⟨[.val bh,.val tI],[.val an,.val tI],fun x=>yp x.1 x.2.1⟩
noncomputable def S5:Cx:=⟨tpr,[(121,Gx)],[]⟩
theorem Tl:FB 67 Jv:=fbk S5 [] none (by intro x;kernel_rfl) (cz Qf (.nil _)) Tryz.func67
def LR:List (Nat×Ann):=[(2,⟨[(1,.val tI),(2,.ref 2 0),(4,.ref 4 0),(6,.ref 6 0)],[(2,q9),(4,IT),(6,q9)],[],aP _⟩),
 (200002,⟨[(1,.val tI),(2,.ref 2 0),(4,.ref 4 0)],[(2,q9),(4,IT)],[],fun _=>0⟩)]
def zQ:au:=⟨[.val bh,.val tI],[.val an,.val tI],fun x=>tr x.1 x.2.1⟩
noncomputable def PR:Cx:=⟨tpr,[(41,qR),(64,ny),(67,Jv),(81,wH),(82,HH)],[]⟩
theorem Fx:FB 42 zQ:=fbk PR LR none (by intro x;kernel_rfl) (cz xZ (cz qj (cz Tl (cz Dc (cz RE (.nil _)))))) Tryz.func42
def Ls:au:=⟨[.val tI],[.val an],fun x=>pP x.1⟩
noncomputable def Ve:Cx:=⟨tpr,[(42,zQ),(64,ny)],[]⟩
theorem Vq:FB 103 Ls:=fbk Ve [] none (by intro x;kernel_rfl) (cz Fx (cz qj (.nil _))) Tryz.func103
def Oi:List (Nat×Ann):=[(1,⟨[(1,.ref 1 0),(2,.ref 2 0)],[(1,IT),(2,IT)],[],aP _⟩),
 (200001,⟨[(1,.ref 1 0),(2,.ref 2 0)],[(1,IT),(2,IT)],[],fun _=>0⟩),
 (300001,⟨[(11,.val .bool)],[],[],fun _=>0⟩)]
def Hz:au:=⟨[.val an],[.val an],fun x=>AF x.1⟩
noncomputable def Rb:Cx:=⟨tpr,[],[]⟩
theorem Rx:FB 104 Hz:=fbk Rb Oi none (by intro x;kernel_rfl) (.nil _) Tryz.func104
def uJ:au:=⟨[.val .hnd,.arR ck],[.val bz],fun x=>kN x.1 x.2.1⟩
noncomputable def LJ:Cx:=⟨tpr,[(103,Ls),(104,Hz),(105,wD)],[]⟩
theorem BN:FB 60 uJ:=fbk LJ [] none (by intro x;kernel_rfl) (cz Vq (cz Rx (cz Da (.nil _)))) Tryz.func60
def GK:List (Nat×Ann):=[(1,⟨[(0,.ref 2000 0),(1,.val tI),(10,.val (.slice ay)),(11,.val tI),(12,.val tI)],[(2000,aaZ)],[.ar ck],aP _⟩),
 (200001,⟨[],[(2000,aaZ)],[.ar ck],fun _=>0⟩)]
def rO:au:=⟨[.box [.val aY,.val (.slice ay),.map tI .hnd,.row 244 an,.row 258 cI,.val tI],.val tI,.ar ck],[],fun x=>jk x.1 x.2.1 x.2.2.1⟩
noncomputable def I3:Cx:=⟨tpr,[(60,uJ),(171,yL)],[]⟩
theorem Ab:FB 100 rO:=fbk I3 GK none (by intro x;kernel_rfl) (cz BN (cz H9 (.nil _))) Tryz.func100
def Po:au:=⟨[.val aY,.val (.slice ay),.val tI,.ar ck],[.box [.val aY,.val (.slice ay),.map tI .hnd,.row 244 an,.row 258 cI,.val tI],.val tI],fun x=>KD x.1 x.2.1 x.2.2.1 x.2.2.2.1⟩
noncomputable def XO:Cx:=⟨tpr,[(37,jS),(98,zS),(99,s7),(100,rO)],[]⟩
theorem X7:FB 58 Po:=fbk XO [] none (by intro x;kernel_rfl) (cz lJ (cz FC (cz AS (cz Ab (.nil _))))) Tryz.func58
def Lr:au:=⟨[.val aY,.val (.slice ay),.val tI,.ar ck],[.val .hnd,.val tI],fun x=>EJ x.1 x.2.1 x.2.2.1 x.2.2.2.1⟩
noncomputable def Vd:Cx:=⟨tpr,[(37,jS),(98,zS),(99,s7),(100,rO)],[]⟩
theorem Vp:FB 58 Lr:=fbk Vd [] none (by intro x;kernel_rfl) (cz lJ (cz FC (cz AS (cz Ab (.nil _))))) Tryz.func58
def DN:List (Nat×Ann):=[(3,⟨[(0,.ref 2000 0),(3,.own 134 .hnd),(11,.rowR 11),(12,.val tI),(13,.val tI)],[(2000,aa0)],[.rowC 11 3 tI,.rowC 10250004 244 an,.rowC 10250005 258 cI,.mapC 10250003 tI .hnd],aP _⟩),
 (200003,⟨[(3,.own 134 .hnd)],[(2000,aa0)],[.rowC 10250004 244 an,.rowC 10250005 258 cI,.mapC 10250003 tI .hnd],fun _=>0⟩)]
def wB:au:=⟨[.box [.val aY,.val (.slice ay),.map tI .hnd,.row 244 an,.row 258 cI,.val tI]],[.row 134 .hnd],fun x=>mw x.1⟩
noncomputable def Fs:Cx:=⟨tpr,[],[(101,YX),(102,YY)]⟩
theorem FE:FB 59 wB:=fbk Fs DN none (by intro x;kernel_rfl) (.VP adI adE (.VP adJ adF (.nil _))) Tryz.func59
def LU:List (Nat×Ann):=[(6,⟨[(10,.own 105 bz),(24,.rowR 60688),(25,.val tI),(26,.val tI)],[],[.rowC 60688 134 .hnd,.ar ck],aP _⟩),
 (200006,⟨[(10,.own 105 bz)],[],[.ar ck],fun _=>0⟩)]
def Gp:au:=⟨[.val aY,.val (.slice ay),.val tI],[.val (.slice bz),.val tI],fun x=>zg x.1 x.2.1 x.2.2.1⟩
noncomputable def PW:Cx:=⟨tpr,[(58,Lr),(58,Po),(59,wB),(60,uJ)],[]⟩
theorem Qc:FB 27 Gp:=fbk PW LU (some ck) (by intro x;kernel_rfl) (cz Vp (cz X7 (cz FE (cz BN (.nil _))))) Tryz.func27
def wq:au:=⟨[.box [.val aY,.val (.slice ay),.val an,.val (.slice aC),.map tI (.slice bz),.map tI bh,.row 37 bQ],.val tI],[.val (.slice bz)],fun x=>me x.1 x.2.1⟩
noncomputable def Fp:Cx:=⟨tpr,[(27,Gp)],[]⟩
theorem FA:FB 38 wq:=fbk Fp [] none (by intro x;kernel_rfl) (cz Qc (.nil _)) Tryz.func38
def yK:au:=⟨[.val bz,.val (.ptr fB)],[.val .bool],fun x=>uy x.1 x.2.1⟩
noncomputable def HU:Cx:=⟨tpr,[],[]⟩
theorem H8:FB 126 yK:=fbk HU [] none (by intro x;kernel_rfl) (.nil _) Tryz.func126
def Av:List (Nat×Ann):=[(2,⟨[(0,.val (.slice bz)),(1,.val (.clo 126 (.ptr fB))),(7,.val tI),(8,.val tI)],[],[],aP _⟩),
 (200002,⟨[],[],[],fun _=>0⟩)]
def qC:au:=⟨[.val (.slice bz),.val (.clo 126 (.ptr fB))],[.val tI],fun x=>iU x.1 x.2.1⟩
noncomputable def BI:Cx:=⟨tpr,[(126,yK)],[]⟩
theorem BJ:FB 125 qC:=fbk BI Av none (by intro x;kernel_rfl) (cz H8 (.nil _)) Tryz.func125
def JQ:List (Nat×Ann):=[(3,⟨[(2,.ref 2 0),(3,.ref 3 0),(4,.ref 4 0),(5,.rowR 18),(20,.val (.slice (.int .u32))),(21,.val tI),(22,.val tI)],[(2,q9),(3,q9),(4,IS)],[.rowC 18 203 (.int .u32)],aP _⟩),
 (7,⟨[(2,.ref 2 0),(3,.ref 3 0),(4,.ref 4 0),(5,.rowR 18),(6,.val tI),(7,.val (.int .u32)),(8,.val (.int .u64)),(20,.val (.slice (.int .u32))),(21,.val tI),(22,.val tI),(28,.val (.slice (.int .u32))),(29,.val tI),(30,.val tI)],[(2,q9),(3,q9),(4,IS)],[.rowC 18 203 (.int .u32)],aP _⟩),
 (200003,⟨[(2,.ref 2 0),(3,.ref 3 0),(4,.ref 4 0),(5,.rowR 18)],[(2,q9),(3,q9),(4,IS)],[.rowC 18 203 (.int .u32)],fun _=>0⟩),
 (200007,⟨[(2,.ref 2 0),(3,.ref 3 0),(4,.ref 4 0),(5,.rowR 18),(6,.val tI),(8,.val (.int .u64)),(20,.val (.slice (.int .u32))),(21,.val tI),(22,.val tI)],[(2,q9),(3,q9),(4,IS)],[.rowC 18 203 (.int .u32)],fun _=>0⟩)]
def lW:au:=⟨[.val bh,.val bh],[.val bh],fun x=>gq x.1 x.2.1⟩
noncomputable def Mx:Cx:=⟨tpr,[(115,oT)],[]⟩
theorem pK:FB 119 lW:=fbk Mx JQ none (by intro x;kernel_rfl) (cz tC (.nil _)) Tryz.func119
def PJ:List (Nat×Ann):=[(3,⟨[(2,.ref 2 0),(3,.ref 3 0),(5,.val tI),(6,.val tI)],[(2,IS),(3,q9)],[],aP _⟩),
 (200003,⟨[(2,.ref 2 0),(3,.ref 3 0)],[(2,IS),(3,q9)],[],fun _=>0⟩)]
def JC:au:=⟨[.val tI],[.val bh],fun x=>CW x.1⟩
noncomputable def Tf:Cx:=⟨tpr,[(64,ny),(119,lW)],[]⟩
theorem Tr:FB 120 JC:=fbk Tf PJ none (by intro x;kernel_rfl) (cz qj (cz pK (.nil _))) Tryz.func120
def Gl:au:=⟨[.val an,.val tI],[.val bh],fun x=>yT x.1 x.2.1⟩
noncomputable def PS:Cx:=⟨tpr,[(64,ny),(119,lW),(120,JC)],[]⟩
theorem P9:FB 66 Gl:=fbk PS [] none (by intro x;kernel_rfl) (cz qj (cz pK (cz Tr (.nil _)))) Tryz.func66
def u7:au:=⟨[.val an],[.val bh],fun x=>jB x.1⟩
noncomputable def Rc:Cx:=⟨tpr,[(66,Gl)],[]⟩
theorem AQ:FB 73 u7:=fbk Rc [] none (by intro x;kernel_rfl) (cz P9 (.nil _)) Tryz.func73
def NG:au:=⟨[.val bh,.val tI],[.val bh],fun x=>C3 x.1 x.2.1⟩
noncomputable def Wi:Cx:=⟨tpr,[(64,ny),(119,lW)],[]⟩
theorem WG:FB 128 NG:=fbk Wi [] none (by intro x;kernel_rfl) (cz qj (cz pK (.nil _))) Tryz.func128
def qQ:au:=⟨[.val bh,.val bh],[.val bh],fun x=>nF x.1 x.2.1⟩
noncomputable def OG:Cx:=⟨tpr,[(115,oT),(116,JD),(117,zW),(118,D8)],[]⟩
theorem xY:FB 65 qQ:=fbk OG [] none (by intro x;kernel_rfl) (cz tC (cz Tt (cz FI (cz Lg (.nil _))))) Tryz.func65
def yj:au:=⟨[.val bh,.val bh],[.val bh],fun x=>rV x.1 x.2.1⟩
noncomputable def OF:Cx:=⟨tpr,[(65,qQ),(81,wH)],[]⟩
theorem Ee:FB 40 yj:=fbk OF [] none (by intro x;kernel_rfl) (cz xY (cz Dc (.nil _))) Tryz.func40
def Bz:au:=⟨[.val bh,.val bh],[.val tI],fun x=>mW x.1 x.2.1⟩
noncomputable def JZ:Cx:=⟨tpr,[(40,yj),(41,qR)],[]⟩
theorem Kh:FB 127 Bz:=fbk JZ [] none (by intro x;kernel_rfl) (cz Ee (cz xZ (.nil _))) Tryz.func127
def NF:au:=⟨[.val bz],[.val bh],fun x=>GS x.1⟩
noncomputable def Wh:Cx:=⟨tpr,[(40,yj),(73,u7)],[]⟩
theorem WE:FB 39 NF:=fbk Wh [] none (by intro x;kernel_rfl) (cz Ee (cz AQ (.nil _))) Tryz.func39
def Bv:au:=⟨[.box [.val aY,.val (.slice ay),.val an,.val (.slice aC),.map tI (.slice bz),.map tI bh,.row 37 bQ],.val tI,.val fB],[.val tI],fun x=>qF x.1 x.2.1 x.2.2.1⟩
noncomputable def JX:Cx:=⟨tpr,[(38,wq),(39,NF),(41,qR),(64,ny),(65,qQ),(73,u7),(119,lW),(125,qC),(127,Bz),(128,NG)],[]⟩
theorem Kc:FB 72 Bv:=fbk JX [] none (by intro x;kernel_rfl) (cz FA (cz WE (cz xZ (cz qj (cz xY (cz AQ (cz pK (cz BJ (cz Kh (cz WG (.nil _))))))))))) Tryz.func72
def Eo:List (Nat×Ann):=[(8,⟨[(2,.ref 2 0),(4,.ref 4 0),(5,.fn 69 [2,3]),(40,.val (.slice fB)),(41,.val tI),(42,.val tI)],[(2,[.ref 2000 0]),(3,[.val tI]),(4,[.val .str,.val .str,.val tI,.val tI,.val tI,.val .bool,.val (.slice gp),.val (.slice fB),.val (.slice jy)]),(2000,Q8)],[],aP _⟩),
 (200008,⟨[],[(2000,Q8)],[],fun _=>0⟩)]
def oK:au:=⟨[.box [.val aY,.val (.slice ay),.val an,.val (.slice aC),.map tI (.slice bz),.map tI bh,.row 37 bQ],.val tI],[],fun x=>fK x.1 x.2.1⟩
noncomputable def GL:Cx:=⟨tpr,[(65,qQ),(70,mT),(72,Bv),(73,u7)],[(69,abq)]⟩
theorem xH:FB 31 oK:=fbk GL Eo none (by intro x;kernel_rfl) (.VP aej aei (cz xY (cz xV (cz Kc (cz AQ (.nil _)))))) Tryz.func31
def QL:List (Nat×Ann):=[(5,⟨[(10,.ref 18 0),(25,.val tI),(26,.val tI)],[(18,Q8)],[],aP _⟩),
 (200005,⟨[(10,.ref 18 0)],[(18,Q8)],[],fun _=>0⟩)]
def Ln:au:=⟨[.val aY,.val (.slice ay),.val an,.val (.slice aC)],[.val (.slice bQ),.val tI],fun x=>Ep x.1 x.2.1 x.2.2.1 x.2.2.2.1⟩
noncomputable def U8:Cx:=⟨tpr,[(30,uI),(30,yg),(31,oK)],[]⟩
theorem Vm:FB 8 Ln:=fbk U8 QL none (by intro x;kernel_rfl) (cz BM (cz Ec (cz xH (.nil _)))) Tryz.func8
def Bt:au:=⟨[.val fm,.val (.ptr fm)],[.val .bool],fun x=>Eb x.1 x.2.1⟩
noncomputable def JV:Cx:=⟨tpr,[],[]⟩
theorem Kb:FB 188 Bt:=fbk JV [] none (by intro x;kernel_rfl) (.nil _) Tryz.func188
def AH:List (Nat×Ann):=[(2,⟨[(0,.val (.slice fm)),(1,.val (.clo 188 (.ptr fm))),(7,.val tI),(8,.val tI)],[],[],aP _⟩),
 (200002,⟨[],[],[],fun _=>0⟩)]
def rT:au:=⟨[.val (.slice fm),.val (.clo 188 (.ptr fm))],[.val tI],fun x=>u6 x.1 x.2.1⟩
noncomputable def BZ:Cx:=⟨tpr,[(188,Bt)],[]⟩
theorem B6:FB 235 rT:=fbk BZ AH none (by intro x;kernel_rfl) (cz Kb (.nil _)) Tryz.func235
def oG:au:=⟨[.val (.slice fm),.val (.clo 188 (.ptr fm))],[.val .bool],fun x=>rN x.1 x.2.1⟩
noncomputable def Aw:Cx:=⟨tpr,[(235,rT)],[]⟩
theorem Ay:FB 187 oG:=fbk Aw [] none (by intro x;kernel_rfl) (cz B6 (.nil _)) Tryz.func187
def wu:au:=⟨[.val an],[.val tI],fun x=>pz x.1⟩
noncomputable def Mk:Cx:=⟨tpr,[(114,eV),(165,p9)],[]⟩
theorem C7:FB 189 wu:=fbk Mk [] none (by intro x;kernel_rfl) (cz fV (cz uR (.nil _))) Tryz.func189
def JK:List (Nat×Ann):=[(4,⟨[(0,.val (.slice fm)),(9,.val (.slice fm)),(10,.val tI),(11,.val tI)],[],[],aP _⟩),
 (200004,⟨[],[],[],fun _=>0⟩)]
def Dz:au:=⟨[.val (.slice fm)],[.val tI],fun x=>GP x.1⟩
noncomputable def Mh:Cx:=⟨tpr,[(35,dU),(37,jS),(48,iV),(187,oG),(189,wu)],[]⟩
theorem MD:FB 129 Dz:=fbk Mh JK none (by intro x;kernel_rfl) (cz eD (cz lJ (cz jX (cz Ay (cz C7 (.nil _)))))) Tryz.func129
def Fj:List (Nat×Ann):=[(2,⟨[(0,.val (.slice .str)),(1,.val .str),(7,.val tI),(8,.val tI)],[],[],aP _⟩),
 (200002,⟨[],[],[],fun _=>0⟩)]
def yQ:au:=⟨[.val (.slice .str),.val .str],[.val tI],fun x=>BR x.1 x.2.1⟩
noncomputable def H7:Cx:=⟨tpr,[],[]⟩
theorem Ii:FB 236 yQ:=fbk H7 Fj none (by intro x;kernel_rfl) (.nil _) Tryz.func236
def vg:au:=⟨[.val (.slice .str),.val .str],[.val .bool],fun x=>yI x.1 x.2.1⟩
noncomputable def Ev:Cx:=⟨tpr,[(236,yQ)],[]⟩
theorem EB:FB 190 vg:=fbk Ev [] none (by intro x;kernel_rfl) (cz Ii (.nil _)) Tryz.func190
def GI:List (Nat×Ann):=[(4,⟨[(0,.val (.slice cZ)),(11,.val (.slice cZ)),(12,.val tI),(13,.val tI)],[],[],aP _⟩),
 (16,⟨[(0,.val (.slice cZ)),(4,.ref 4 0),(11,.val (.slice cZ)),(12,.val tI),(13,.val tI),(46,.val (.slice .str)),(47,.val tI),(48,.val tI)],[(4,Q9)],[],aP _⟩),
 (200004,⟨[],[],[],fun _=>0⟩),
 (200016,⟨[(0,.val (.slice cZ)),(11,.val (.slice cZ)),(12,.val tI),(13,.val tI)],[],[],fun _=>0⟩)]
def Ao:au:=⟨[.val (.slice cZ)],[.val tI],fun x=>CY x.1⟩
noncomputable def IW:Cx:=⟨tpr,[(37,jS),(48,iV),(189,wu),(190,vg)],[]⟩
theorem Ja:FB 130 Ao:=fbk IW GI none (by intro x;kernel_rfl) (cz lJ (cz jX (cz C7 (cz EB (.nil _))))) Tryz.func130
def Ef:au:=⟨[.val (.slice fm),.val (.slice cZ)],[.val tI],fun x=>IM x.1 x.2.1⟩
noncomputable def Ow:Cx:=⟨tpr,[(129,Dz),(130,Ao)],[]⟩
theorem OI:FB 74 Ef:=fbk Ow [] none (by intro x;kernel_rfl) (cz MD (cz Ja (.nil _))) Tryz.func74
def Lo:au:=⟨[.val an],[.val tI],fun x=>JR x.1⟩
noncomputable def U9:Cx:=⟨tpr,[(191,zu)],[]⟩
theorem Vn:FB 131 Lo:=fbk U9 [] none (by intro x;kernel_rfl) (cz DS (.nil _)) Tryz.func131
def tY:au:=⟨[.val (.slice .hnd)],[.row 154 .hnd],fun x=>xI x.1⟩
noncomputable def DQ:Cx:=⟨tpr,[],[]⟩
theorem DV:FB 132 tY:=fbk DQ [] none (by intro x;kernel_rfl) (.nil _) Tryz.func132
def Eg:au:=⟨[.val .hnd,.arR aQ],[.val tI],fun x=>BV x.1 x.2.1⟩
noncomputable def Ox:Cx:=⟨tpr,[],[]⟩
theorem OJ:FB 135 Eg:=fbk Ox [] none (by intro x;kernel_rfl) (.nil _) Tryz.func135
def wz:au:=⟨[.val .hnd,.val .hnd,.arR aQ],[.val tI],fun x=>pE x.1 x.2.1 x.2.2.1⟩
noncomputable def Ml:Cx:=⟨tpr,[(135,Eg)],[]⟩
theorem C8:FB 134 wz:=fbk Ml [] none (by intro x;kernel_rfl) (cz OJ (.nil _)) Tryz.func134
def qD:List (Nat×Ann):=[(1,⟨[(0,.rowR 10250000),(1,.val tI),(2,.val tI),(3,.val (.clo 134 .unit)),(8,.val tI)],[],[.rowC 10250000 154 .hnd,.arF aQ],aP _⟩),
 (4,⟨[(0,.rowR 10250000),(1,.val tI),(2,.val tI),(3,.val (.clo 134 .unit)),(8,.val tI),(9,.val tI)],[],[.rowC 10250000 154 .hnd,.arF aQ],aP _⟩),
 (200001,⟨[],[],[.rowC 10250000 154 .hnd,.arF aQ],fun _=>0⟩),
 (200004,⟨[(0,.rowR 10250000),(1,.val tI),(2,.val tI),(3,.val (.clo 134 .unit)),(8,.val tI)],[],[.rowC 10250000 154 .hnd,.arF aQ],fun _=>0⟩)]
def jx:au:=⟨[.mrow 154 .hnd,.val tI,.val tI,.val (.clo 134 .unit),.arR aQ],[],fun x=>gf x.1 x.2.1 x.2.2.1 x.2.2.2.1 x.2.2.2.2.1⟩
noncomputable def rY:Cx:=⟨tpr,[(134,wz)],[]⟩
theorem rZ:FB 237 jx:=fbk rY qD none (by intro x;kernel_rfl) (cz C8 (.nil _)) Tryz.func237
def tu:List (Nat×Ann):=[(1,⟨[(0,.rowR 10250000),(1,.val tI),(2,.val tI),(3,.val tI),(10,.val tI)],[],[.rowC 10250000 154 .hnd,.arF aQ],aP _⟩),
 (200001,⟨[],[],[.rowC 10250000 154 .hnd,.arF aQ],fun _=>0⟩)]
def kY:au:=⟨[.mrow 154 .hnd,.val tI,.val tI,.val tI,.val (.clo 134 .unit),.arR aQ],[],fun x=>fk x.1 x.2.1 x.2.2.1 x.2.2.2.1 x.2.2.2.2.1 x.2.2.2.2.2.1⟩
noncomputable def vl:Cx:=⟨tpr,[],[]⟩
theorem vn:FB 282 kY:=fbk vl tu none (by intro x;kernel_rfl) (.nil _) Tryz.func282
def vB:List (Nat×Ann):=[(2,⟨[(0,.rowR 10250000),(2,.val tI),(4,.val (.clo 134 .unit)),(10,.val tI),(11,.val tI)],[],[.rowC 10250000 154 .hnd,.arF aQ],aP _⟩),
 (200002,⟨[(0,.rowR 10250000),(2,.val tI),(4,.val (.clo 134 .unit)),(10,.val tI)],[],[.rowC 10250000 154 .hnd,.arF aQ],fun _=>0⟩)]
def mU:au:=⟨[.mrow 154 .hnd,.val tI,.val tI,.val tI,.val (.clo 134 .unit),.arR aQ],[],fun x=>oE x.1 x.2.1 x.2.2.1 x.2.2.2.1 x.2.2.2.2.1 x.2.2.2.2.2.1⟩
noncomputable def xS:Cx:=⟨tpr,[(282,kY)],[]⟩
theorem xW:FB 266 mU:=fbk xS vB none (by intro x;kernel_rfl) (cz vn (.nil _)) Tryz.func266
def kC:List (Nat×Ann):=[(3,⟨[(0,.rowR 10250000),(1,.val tI),(4,.val (.clo 134 .unit)),(10,.val tI),(11,.val tI)],[],[.rowC 10250000 154 .hnd,.arF aQ],aP _⟩),
 (9,⟨[(0,.rowR 10250000),(10,.val tI),(13,.val tI)],[],[.rowC 10250000 154 .hnd,.arF aQ],aP _⟩),
 (15,⟨[(0,.rowR 10250000),(2,.val tI),(4,.val (.clo 134 .unit)),(14,.val tI),(15,.val tI)],[],[.rowC 10250000 154 .hnd,.arF aQ],aP _⟩),
 (21,⟨[(0,.rowR 10250000),(14,.val tI),(17,.val tI)],[],[.rowC 10250000 154 .hnd,.arF aQ],aP _⟩),
 (33,⟨[(0,.rowR 10250000),(1,.val tI),(2,.val tI),(3,.val tI),(4,.val (.clo 134 .unit)),(18,.val tI),(19,.val tI),(20,.val tI),(21,.val tI),(22,.val tI)],[],[.rowC 10250000 154 .hnd,.arF aQ],aP _⟩),
 (100030,⟨[(0,.rowR 10250000),(1,.val tI),(2,.val tI),(3,.val tI),(4,.val (.clo 134 .unit)),(18,.val tI),(19,.val tI),(20,.val tI),(21,.val tI)],[],[.rowC 10250000 154 .hnd,.arF aQ],fun _=>0⟩),
 (100040,⟨[(0,.rowR 10250000),(1,.val tI),(3,.val tI),(4,.val (.clo 134 .unit)),(18,.val tI),(20,.val tI),(24,.val tI)],[],[.rowC 10250000 154 .hnd,.arF aQ],fun _=>0⟩),
 (100042,⟨[(0,.rowR 10250000),(3,.val tI),(4,.val (.clo 134 .unit)),(18,.val tI),(24,.val tI)],[],[.rowC 10250000 154 .hnd,.arF aQ],fun _=>0⟩),
 (200003,⟨[(0,.rowR 10250000),(1,.val tI),(10,.val tI)],[],[.rowC 10250000 154 .hnd,.arF aQ],fun _=>0⟩),
 (200009,⟨[],[],[.rowC 10250000 154 .hnd,.arF aQ],fun _=>0⟩),
 (200015,⟨[(0,.rowR 10250000),(2,.val tI),(14,.val tI)],[],[.rowC 10250000 154 .hnd,.arF aQ],fun _=>0⟩),
 (200021,⟨[],[],[.rowC 10250000 154 .hnd,.arF aQ],fun _=>0⟩),
 (200033,⟨[(0,.rowR 10250000),(1,.val tI),(2,.val tI),(3,.val tI),(4,.val (.clo 134 .unit)),(18,.val tI),(19,.val tI),(20,.val tI)],[],[.rowC 10250000 154 .hnd,.arF aQ],fun _=>0⟩)]
def bS:List PM:=[.mrow 154 .hnd,.val tI,.val tI,.val tI,.val (.clo 134 .unit),.arR aQ]
def cO:List RM:=[]
noncomputable def kW:List (Nat×au):=[(134,wz),(266,mU)]
def lV:au:=⟨bS,cO,fun x=>iT x.1 x.2.1 x.2.2.1 x.2.2.2.1 x.2.2.2.2.1 x.2.2.2.2.2.1⟩
theorem vm:∀ (self:eW bS→Option (dB bS cO)) (x:eW bS),P8 ⟨tpr,(238,⟨bS,cO,self⟩)::kW,[]⟩ kC none Tryz.f238 ⟨bS,cO,fun x=>dK self x.1 x.2.1 x.2.2.1 x.2.2.2.1 x.2.2.2.2.1 x.2.2.2.2.2.1⟩ x=dK self x.1 x.2.1 x.2.2.1 x.2.2.2.1 x.2.2.2.2.1 x.2.2.2.2.2.1:=by intro self x;kernel_rfl
theorem lK:jg tpr 238:=sG Tryz.func238 rfl (by decide)
theorem vM:oZ tpr 238 lV:=Yf (ps:=bS) (rs:=cO) (m:=fun n x=>NA (fun self x=>dK self x.1 x.2.1 x.2.2.1 x.2.2.2.1 x.2.2.2.2.1 x.2.2.2.2.2.1) n x) (RJ (P:=Tryz.prog) (specs:=kW) (ps:=bS) (rs:=cO) (cz C8 (cz xW (.nil _))) (by kernel_rfl) (fun self x=>dK self x.1 x.2.1 x.2.2.1 x.2.2.2.1 x.2.2.2.2.1 x.2.2.2.2.2.1) kC none (by kernel_rfl) lK vm) (fun x=>kI x.1 x.2.1 x.2.2.1 x.2.2.2.1 x.2.2.2.2.1 x.2.2.2.2.2.1)
def vC:List (Nat×Ann):=[(2,⟨[(0,.rowR 10250000),(1,.val tI),(2,.val (.clo 134 .unit)),(6,.val tI),(7,.val tI),(8,.val tI)],[],[.rowC 10250000 154 .hnd,.arF aQ],aP _⟩),
 (7,⟨[(0,.rowR 10250000),(1,.val tI),(2,.val (.clo 134 .unit)),(6,.val tI)],[],[.rowC 10250000 154 .hnd,.arF aQ],aP _⟩),
 (9,⟨[(0,.rowR 10250000),(1,.val tI),(2,.val (.clo 134 .unit)),(6,.val tI),(7,.val tI),(8,.val tI)],[],[.rowC 10250000 154 .hnd,.arF aQ],aP _⟩),
 (200002,⟨[(0,.rowR 10250000),(1,.val tI),(2,.val (.clo 134 .unit)),(6,.val tI),(7,.val tI)],[],[.rowC 10250000 154 .hnd,.arF aQ],fun _=>0⟩),
 (200007,⟨[],[],[.rowC 10250000 154 .hnd,.arF aQ],fun _=>0⟩),
 (200009,⟨[(0,.rowR 10250000),(1,.val tI),(2,.val (.clo 134 .unit)),(6,.val tI),(7,.val tI)],[],[.rowC 10250000 154 .hnd,.arF aQ],fun _=>0⟩)]
def mV:au:=⟨[.mrow 154 .hnd,.val tI,.val (.clo 134 .unit),.arR aQ],[],fun x=>oF x.1 x.2.1 x.2.2.1 x.2.2.2.1⟩
noncomputable def xT:Cx:=⟨tpr,[(237,jx),(238,lV)],[]⟩
theorem xX:FB 192 mV:=fbk xT vC none (by intro x;kernel_rfl) (cz rZ (.cons vM lK (.nil _))) Tryz.func192
def mE:au:=⟨[.mrow 154 .hnd,.val (.clo 134 .unit),.arR aQ],[],fun x=>nW x.1 x.2.1 x.2.2.1⟩
noncomputable def wX:Cx:=⟨tpr,[(192,mV)],[]⟩
theorem wY:FB 133 mE:=fbk wX [] none (by intro x;kernel_rfl) (cz xX (.nil _)) Tryz.func133
def DB:au:=⟨[.val .hnd,.val tI,.arR aQ],[.val .bool],fun x=>AK x.1 x.2.1 x.2.2.1⟩
noncomputable def Mj:Cx:=⟨tpr,[],[]⟩
theorem MF:FB 136 DB:=fbk Mj [] none (by intro x;kernel_rfl) (.nil _) Tryz.func136
def Ap:au:=⟨[.val .hnd,.arR aQ],[.val tI],fun x=>CZ x.1 x.2.1⟩
noncomputable def IX:Cx:=⟨tpr,[(191,zu)],[]⟩
theorem Jb:FB 193 Ap:=fbk IX [] none (by intro x;kernel_rfl) (cz DS (.nil _)) Tryz.func193
def zR:au:=⟨[.val .hnd,.val tI,.val tI,.ar aQ],[.val tI],fun x=>yW x.1 x.2.1 x.2.2.1 x.2.2.2.1⟩
noncomputable def PT:Cx:=⟨tpr,[],[]⟩
theorem Fy:FB 138 zR:=fbk PT [] none (by intro x;kernel_rfl) (.nil _) Tryz.func138
def DA:au:=⟨[.val .hnd,.val tI,.val tI,.ar aQ],[.val tI],fun x=>GQ x.1 x.2.1 x.2.2.1 x.2.2.2.1⟩
noncomputable def Mi:Cx:=⟨tpr,[(138,zR),(193,Ap)],[]⟩
theorem ME:FB 137 DA:=fbk Mi [] none (by intro x;kernel_rfl) (cz Fy (cz Jb (.nil _))) Tryz.func137
def LS:List (Nat×Ann):=[(4,⟨[(1,.val (.slice cZ)),(2,.val tI),(8,.own 154 .hnd),(9,.mapR 23),(24,.val (.slice fm)),(25,.val tI),(26,.val tI)],[],[.mapC 23 .str .hnd,.ar aQ],aP _⟩),
 (14,⟨[(2,.val tI),(8,.own 154 .hnd),(9,.mapR 23),(13,.rowR 105744),(14,.own 3 tI),(49,.val (.slice cZ)),(50,.val tI),(51,.val tI)],[],[.rowC 105744 154 .hnd,.mapC 23 .str .hnd,.ar aQ],aP _⟩),
 (19,⟨[(2,.val tI),(8,.own 154 .hnd),(9,.mapR 23),(13,.rowR 105744),(14,.own 3 tI),(16,.ref 16 0),(17,.val tI),(49,.val (.slice cZ)),(50,.val tI),(51,.val tI),(63,.val (.slice .str)),(64,.val tI),(65,.val tI)],[(16,Q9)],[.rowC 105744 154 .hnd,.mapC 23 .str .hnd,.ar aQ],aP _⟩),
 (26,⟨[(2,.val tI),(8,.own 154 .hnd),(9,.mapR 23),(13,.rowR 105744),(14,.own 3 tI),(16,.ref 16 0),(17,.val tI),(49,.val (.slice cZ)),(50,.val tI),(51,.val tI),(86,.rowR 105744),(87,.val tI),(88,.val tI)],[(16,Q9)],[.rowC 105744 154 .hnd,.mapC 23 .str .hnd,.ar aQ],aP _⟩),
 (200004,⟨[(1,.val (.slice cZ)),(2,.val tI),(8,.own 154 .hnd),(9,.mapR 23)],[],[.mapC 23 .str .hnd,.ar aQ],fun _=>0⟩),
 (200014,⟨[(8,.own 154 .hnd),(14,.own 3 tI)],[],[.ar aQ],fun _=>0⟩),
 (200019,⟨[(2,.val tI),(8,.own 154 .hnd),(9,.mapR 23),(13,.rowR 105744),(14,.own 3 tI),(16,.ref 16 0),(17,.val tI),(49,.val (.slice cZ)),(50,.val tI),(51,.val tI)],[(16,Q9)],[.rowC 105744 154 .hnd,.mapC 23 .str .hnd,.ar aQ],fun _=>0⟩),
 (200026,⟨[(2,.val tI),(8,.own 154 .hnd),(9,.mapR 23),(13,.rowR 105744),(14,.own 3 tI),(17,.val tI),(49,.val (.slice cZ)),(50,.val tI),(51,.val tI)],[],[.rowC 105744 154 .hnd,.mapC 23 .str .hnd,.ar aQ],fun _=>0⟩)]
def Gm:au:=⟨[.val (.slice fm),.val (.slice cZ),.val tI,.ar aQ],[.val (.slice .hnd),.val (.slice tI)],fun x=>K8 x.1 x.2.1 x.2.2.1 x.2.2.2.1⟩
noncomputable def PU:Cx:=⟨tpr,[(131,Lo),(132,tY),(133,mE),(136,DB),(137,DA),(138,zR)],[]⟩
theorem Qa:FB 75 Gm:=fbk PU LS none (by intro x;kernel_rfl) (cz Vn (cz DV (cz wY (cz MF (cz ME (cz Fy (.nil _))))))) Tryz.func75
def Lp:au:=⟨[.val tI],[.val an,.val tI],fun x=>QX x.1⟩
noncomputable def Va:Cx:=⟨tpr,[(42,zQ),(64,ny)],[]⟩
theorem Vo:FB 139 Lp:=fbk Va [] none (by intro x;kernel_rfl) (cz Fx (cz qj (.nil _))) Tryz.func139
def Ei:au:=⟨[.val tI],[.val an],fun x=>wV x.1⟩
noncomputable def OA:Cx:=⟨tpr,[(139,Lp)],[]⟩
theorem OL:FB 76 Ei:=fbk OA [] none (by intro x;kernel_rfl) (cz Vo (.nil _)) Tryz.func76
def UY:List (Nat×Ann):=[(7,⟨[(9,.val (.slice tI)),(10,.own 96 BD),(28,.val (.slice .hnd)),(29,.val tI),(30,.val tI)],[],[.ar aQ],aP _⟩),
 (13,⟨[(10,.own 96 BD),(13,.own 55 an),(58,.val (.slice tI)),(59,.val tI),(60,.val tI)],[],[.ar aQ],aP _⟩),
 (200007,⟨[(9,.val (.slice tI)),(10,.own 96 BD)],[],[.ar aQ],fun _=>0⟩),
 (200013,⟨[(10,.own 96 BD),(13,.own 55 an)],[],[.ar aQ],fun _=>0⟩)]
def Pn:au:=⟨[.val (.slice fm),.val (.slice cZ)],[.val (.slice BD),.val (.slice an),.val tI],fun x=>V6 x.1 x.2.1⟩
noncomputable def XN:Cx:=⟨tpr,[(74,Ef),(75,Gm),(76,Ei)],[]⟩
theorem X6:FB 32 Pn:=fbk XN UY (some aQ) (by intro x;kernel_rfl) (cz OI (cz Qa (cz OL (.nil _)))) Tryz.func32
def NH:au:=⟨[],[.val .bool],fun x=>M4 ⟩
noncomputable def Wk:Cx:=⟨tpr,[(32,Pn)],[]⟩
theorem WH:FB 9 NH:=fbk Wk [] none (by intro x;kernel_rfl) (cz X6 (.nil _)) Tryz.func9
def AG:List (Nat×Ann):=[(4,⟨[(0,.val (.slice bQ)),(1,.val (.slice bQ)),(12,.val tI),(13,.val tI)],[],[],aP _⟩),
 (200004,⟨[],[],[],fun _=>0⟩)]
def rS:au:=⟨[.val (.slice bQ),.val (.slice bQ)],[.val .bool],fun x=>jv x.1 x.2.1⟩
noncomputable def BY:Cx:=⟨tpr,[],[]⟩
theorem B5:FB 11 rS:=fbk BY AG none (by intro x;kernel_rfl) (.nil _) Tryz.func11
end Go.Proofs.SeatA
end
