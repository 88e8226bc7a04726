/-
  Each function that the law reaches is as its plain model says, a further part. No condition.
-/
import Derived.Test.YtfghdjdpccoleabGreatDoorYw
set_option maxRecDepth 100000
noncomputable section
namespace Go.Proofs.SeatU
open Go.Dn Go.Md Go.Proofs
def Q9:List CK:=[.val .bool,.own 173 (.int .u32)]
def DL:List CK:=[.val .bool,.val (.slice (.int .u32))]
def Mj:List CK:=[.val .str,.val .bool,.val (.slice ah),.val (.slice ah)]
def aaP:List CK:=[.val .str,.val .str,.val tI,.val tI,.val (.slice ah)]
def xC:aA:=⟨[.val aR],[.val aR],fun x=>qS x.1⟩
noncomputable def Mw:Cx:=⟨tpr,[(127,mZ)],[]⟩
theorem DO:FB 158 xC:=fbk Mw [] none (by intro x;kernel_rfl) (cz pL (.nil _)) Tryz.func158
def SX:List (Nat×Ann):=[(6,⟨[(1,.val (.slice (.int .u32))),(5,.own 173 (.int .u32)),(6,.val (.int .u64)),(20,.val (.slice (.int .u32))),(21,.val tI),(22,.val tI)],[],[],aI _⟩),
 (100002,⟨[(0,.val (.slice (.int .u32))),(1,.val (.slice (.int .u32)))],[],[],fun _=>0⟩),
 (100010,⟨[(1,.val (.slice (.int .u32))),(5,.own 173 (.int .u32)),(6,.val (.int .u64)),(20,.val (.slice (.int .u32))),(21,.val tI),(22,.val tI)],[],[],fun _=>0⟩),
 (200006,⟨[(5,.own 173 (.int .u32)),(6,.val (.int .u64))],[],[],fun _=>0⟩)]
def NK:aA:=⟨[.val (.slice (.int .u32)),.val (.slice (.int .u32))],[.row 173 (.int .u32)],fun x=>Eg x.1 x.2.1⟩
noncomputable def Wz:Cx:=⟨tpr,[],[]⟩
theorem WT:FB 128 NK:=fbk Wz SX none (by intro x;kernel_rfl) (.nil _) Tryz.func128
def PO:List (Nat×Ann):=[(6,⟨[(1,.val (.slice (.int .u32))),(5,.own 173 (.int .u32)),(6,.val (.int .u64)),(20,.val (.slice (.int .u32))),(21,.val tI),(22,.val tI)],[],[],aI _⟩),
 (100002,⟨[(0,.val (.slice (.int .u32))),(1,.val (.slice (.int .u32)))],[],[],fun _=>0⟩),
 (100010,⟨[(1,.val (.slice (.int .u32))),(5,.own 173 (.int .u32)),(6,.val (.int .u64)),(20,.val (.slice (.int .u32))),(21,.val tI),(22,.val tI)],[],[],fun _=>0⟩),
 (200006,⟨[(5,.own 173 (.int .u32)),(6,.val (.int .u64))],[],[],fun _=>0⟩)]
def JH:aA:=⟨[.val (.slice (.int .u32)),.val (.slice (.int .u32))],[.val (.slice (.int .u32))],fun x=>IG x.1 x.2.1⟩
noncomputable def Ti:Cx:=⟨tpr,[],[]⟩
theorem Tx:FB 128 JH:=fbk Ti PO none (by intro x;kernel_rfl) (.nil _) Tryz.func128
def Ma:List (Nat×Ann):=[(4,⟨[(0,.val (.slice (.int .u32))),(1,.val (.slice (.int .u32))),(5,.val tI)],[],[],aI _⟩),
 (200004,⟨[],[],[],fun _=>0⟩)]
def Ax:aA:=⟨[.val (.slice (.int .u32)),.val (.slice (.int .u32))],[.val tI],fun x=>u9 x.1 x.2.1⟩
noncomputable def P8:Cx:=⟨tpr,[],[]⟩
theorem FX:FB 129 Ax:=fbk P8 Ma none (by intro x;kernel_rfl) (.nil _) Tryz.func129
def QZ:List (Nat×Ann):=[(4,⟨[(1,.val (.slice (.int .u32))),(5,.own 173 (.int .u32)),(6,.val (.int .u64)),(13,.val (.slice (.int .u32))),(14,.val tI),(15,.val tI)],[],[],aI _⟩),
 (100008,⟨[(1,.val (.slice (.int .u32))),(5,.own 173 (.int .u32)),(9,.val (.int .u64)),(13,.val (.slice (.int .u32))),(14,.val tI),(15,.val tI)],[],[],fun _=>0⟩),
 (200004,⟨[(5,.own 173 (.int .u32))],[],[],fun _=>0⟩)]
def EH:aA:=⟨[.val (.slice (.int .u32)),.val (.slice (.int .u32))],[.val (.slice (.int .u32))],fun x=>yA x.1 x.2.1⟩
noncomputable def Vp:Cx:=⟨tpr,[(173,ux)],[]⟩
theorem K9:FB 130 EH:=fbk Vp QZ none (by intro x;kernel_rfl) (cz Ah (.nil _)) Tryz.func130
def yO:aA:=⟨[.val aR,.val aR],[.val aR],fun x=>jG x.1 x.2.1⟩
noncomputable def OK:Cx:=⟨tpr,[(127,mZ),(128,JH),(129,Ax),(130,EH)],[]⟩
theorem EO:FB 75 yO:=fbk OK [] none (by intro x;kernel_rfl) (cz pL (cz Tx (cz FX (cz K9 (.nil _))))) Tryz.func75
def yN:aA:=⟨[.val aR,.val aR],[.val aR],fun x=>nV x.1 x.2.1⟩
noncomputable def OJ:Cx:=⟨tpr,[(75,yO),(158,xC)],[]⟩
theorem EN:FB 102 yN:=fbk OJ [] none (by intro x;kernel_rfl) (cz EO (cz DO (.nil _))) Tryz.func102
def rG:aA:=⟨[.val aR],[.val tI],fun x=>jH x.1⟩
noncomputable def OL:Cx:=⟨tpr,[],[]⟩
theorem yF:FB 103 rG:=fbk OL [] none (by intro x;kernel_rfl) (.nil _) Tryz.func103
def B4:aA:=⟨[.val aR,.val aR],[.val tI],fun x=>rH x.1 x.2.1⟩
noncomputable def J9:Cx:=⟨tpr,[(102,yN),(103,rG)],[]⟩
theorem Kk:FB 66 B4:=fbk J9 [] none (by intro x;kernel_rfl) (cz EN (cz yF (.nil _))) Tryz.func66
def IM:List (Nat×Ann):=[(9,⟨[(5,.ref 5 0),(51,.rowR 51),(52,.val tI),(53,.val tI)],[(5,Mj)],[.rowC 51 47 (.slice ah)],aI _⟩),
 (16,⟨[(5,.ref 5 0),(64,.val (.slice ah)),(65,.val tI),(66,.val tI)],[(5,Mj)],[],aI _⟩),
 (200009,⟨[(5,.ref 5 0)],[(5,Mj)],[],fun _=>0⟩),
 (200016,⟨[],[],[],fun _=>0⟩),
 (300004,⟨[(20,.val .bool)],[],[],fun _=>0⟩),
 (300006,⟨[(34,.val .bool)],[],[],fun _=>0⟩)]
def Cg:aA:=⟨[.val (.slice aO),.val tI],[.val tI],fun x=>tZ x.1 x.2.1⟩
noncomputable def Ly:Cx:=⟨tpr,[(53,wA),(64,yK),(65,pI),(66,B4),(67,uv)],[]⟩
theorem LH:FB 31 Cg:=fbk Ly IM none (by intro x;kernel_rfl) (cz Bj (cz EL (cz yC (cz Kk (cz Bl (.nil _)))))) Tryz.func31
def H7:List (Nat×Ann):=[(4,⟨[(0,.val (.slice aO)),(9,.val tI),(10,.val tI)],[],[],aI _⟩),
 (200004,⟨[],[],[],fun _=>0⟩)]
def nM:aA:=⟨[.val (.slice aO)],[.val tI],fun x=>kL x.1⟩
noncomputable def J4:Cx:=⟨tpr,[(31,Cg)],[]⟩
theorem tG:FB 6 nM:=fbk J4 H7 none (by intro x;kernel_rfl) (cz LH (.nil _)) Tryz.func6
def vK:aA:=⟨[.val bY,.val (.slice aO)],[.box [.val bY,.val (.slice aO)],.val tI],fun x=>om x.1 x.2.1⟩
noncomputable def Lw:Cx:=⟨tpr,[(6,nM),(47,sA)],[]⟩
theorem Cb:FB 13 vK:=fbk Lw [] none (by intro x;kernel_rfl) (cz tG (cz AL (.nil _))) Tryz.func13
def sB:aA:=⟨[.val bY,.val (.slice aO)],[.val .hnd,.val tI],fun x=>gW x.1 x.2.1⟩
noncomputable def I1:Cx:=⟨tpr,[(6,nM),(47,sA)],[]⟩
theorem AM:FB 13 sB:=fbk I1 [] none (by intro x;kernel_rfl) (cz tG (cz AL (.nil _))) Tryz.func13
def xq:aA:=⟨[.val aO,.val .str],[.val tI],fun x=>rY x.1 x.2.1⟩
noncomputable def FK:Cx:=⟨tpr,[(22,gY)],[]⟩
theorem FT:FB 78 xq:=fbk FK [] none (by intro x;kernel_rfl) (.cons mo mj (.nil _)) Tryz.func78
def qX:List (Nat×Ann):=[(3,⟨[(0,.val (.slice aO)),(1,.val .str),(2,.val (.clo 78 .unit)),(8,.val tI),(9,.val tI),(10,.val tI)],[],[],aI _⟩),
 (200003,⟨[(0,.val (.slice aO)),(1,.val .str),(2,.val (.clo 78 .unit)),(8,.val tI),(9,.val tI)],[],[],fun _=>0⟩)]
def fG:aA:=⟨[.val (.slice aO),.val .str,.val (.clo 78 .unit)],[.val tI,.val .bool],fun x=>cM x.1 x.2.1 x.2.2.1⟩
noncomputable def rM:Cx:=⟨tpr,[(78,xq)],[]⟩
theorem jB:FB 77 fG:=fbk rM qX none (by intro x;kernel_rfl) (cz FT (.nil _)) Tryz.func77
def zo:aA:=⟨[.val (.ptr lT),.val .str],[.val aO,.val .bool],fun x=>iX x.1 x.2.1⟩
noncomputable def Ie:Cx:=⟨tpr,[(77,fG)],[]⟩
theorem Ik:FB 39 zo:=fbk Ie [] none (by intro x;kernel_rfl) (cz jB (.nil _)) Tryz.func39
def xw:aA:=⟨[.box [.val bY,.val (.slice aO)],.val .str],[.val aO,.val .bool],fun x=>gO x.1 x.2.1⟩
noncomputable def FL:Cx:=⟨tpr,[(77,fG)],[]⟩
theorem FU:FB 39 xw:=fbk FL [] none (by intro x;kernel_rfl) (cz jB (.nil _)) Tryz.func39
def dN:List PM:=[.val (.ptr lT),.val tI]
def gx:List RM:=[.val .bool]
noncomputable def yB:List (Nat×aA):=[(39,zo),(48,mE)]
def me:aA:=⟨dN,gx,fun x=>fk x.1 x.2.1⟩
theorem G5:∀ (self:dn dN->Option (cF dN gx)) (x:dn dN),Ih ⟨tpr,(15,⟨dN,gx,self⟩)::yB,[]⟩ [] none Tryz.f15 ⟨dN,gx,fun x=>cr self x.1 x.2.1⟩ x=cr self x.1 x.2.1:=by intro self x;kernel_rfl
theorem lY:cH tpr 15:=dh Tryz.func15 rfl (by decide)
theorem q9:cQ tpr 15 me:=De (ps:=dN) (rs:=gx) (m:=fun n x=>nL (fun self x=>cr self x.1 x.2.1) n x) (Br (P:=Tryz.prog) (specs:=yB) (ps:=dN) (rs:=gx) (cz Ik (cz p8 (.nil _))) (by kernel_rfl) (fun self x=>cr self x.1 x.2.1) [] none (by kernel_rfl) lY G5) (fun x=>oo x.1 x.2.1)
def Ce:aA:=⟨[.val tI,.val (.ptr (.ptr lT))],[.val .bool],fun x=>Am x.1 x.2.1⟩
noncomputable def Lu:Cx:=⟨tpr,[(15,me)],[]⟩
theorem LF:FB 17 Ce:=fbk Lu [] none (by intro x;kernel_rfl) (.cons q9 lY (.nil _)) Tryz.func17
def DH:List (Nat×Ann):=[(2,⟨[(0,.val (.slice tI)),(1,.val (.clo 17 (.ptr (.ptr lT)))),(7,.val tI),(8,.val tI)],[],[],aI _⟩),
 (200002,⟨[],[],[],fun _=>0⟩)]
def wD:aA:=⟨[.val (.slice tI),.val (.clo 17 (.ptr (.ptr lT)))],[.val tI],fun x=>rm x.1 x.2.1⟩
noncomputable def Fa:Cx:=⟨tpr,[(17,Ce)],[]⟩
theorem Fe:FB 50 wD:=fbk Fa DH none (by intro x;kernel_rfl) (cz LF (.nil _)) Tryz.func50
def sD:aA:=⟨[.val (.slice tI),.val (.clo 17 (.ptr (.ptr lT)))],[.val .bool],fun x=>gG x.1 x.2.1⟩
noncomputable def Cq:Cx:=⟨tpr,[(50,wD)],[]⟩
theorem Cw:FB 16 sD:=fbk Cq [] none (by intro x;kernel_rfl) (cz Fe (.nil _)) Tryz.func16
def A9:List (Nat×Ann):=[(3,⟨[(0,.val (.slice (.slice ah))),(3,.val tI),(9,.val (.slice (.slice ah))),(10,.val tI),(11,.val tI)],[],[],aI _⟩),
 (11,⟨[(6,.own 68 ah),(25,.val (.slice (.slice ah))),(26,.val tI),(27,.val tI)],[],[],aI _⟩),
 (200003,⟨[(0,.val (.slice (.slice ah))),(3,.val tI)],[],[],fun _=>0⟩),
 (200011,⟨[(6,.own 68 ah)],[],[],fun _=>0⟩)]
def sC:aA:=⟨[.val (.slice (.slice ah))],[.row 68 ah],fun x=>jJ x.1⟩
noncomputable def Cp:Cx:=⟨tpr,[(156,u6)],[]⟩
theorem Cv:FB 97 sC:=fbk Cp A9 none (by intro x;kernel_rfl) (.cons Eu Es (.nil _)) Tryz.func97
def qY:List (Nat×Ann):=[(1,⟨[(0,.rowR 10250000),(1,.val tI),(2,.val tI),(3,.val (.clo 99 .unit)),(8,.val tI)],[],[.rowC 10250000 68 ah],aI _⟩),
 (4,⟨[(0,.rowR 10250000),(1,.val tI),(2,.val tI),(3,.val (.clo 99 .unit)),(8,.val tI),(9,.val tI)],[],[.rowC 10250000 68 ah],aI _⟩),
 (200001,⟨[],[],[.rowC 10250000 68 ah],fun _=>0⟩),
 (200004,⟨[(0,.rowR 10250000),(1,.val tI),(2,.val tI),(3,.val (.clo 99 .unit)),(8,.val tI)],[],[.rowC 10250000 68 ah],fun _=>0⟩)]
def jF:aA:=⟨[.mrow 68 ah,.val tI,.val tI,.val (.clo 99 .unit)],[],fun x=>uZ x.1 x.2.1 x.2.2.1 x.2.2.2.1⟩
noncomputable def rN:Cx:=⟨tpr,[(99,gL)],[]⟩
theorem rP:FB 200 jF:=fbk rN qY none (by intro x;kernel_rfl) (cz jI (.nil _)) Tryz.func200
def tC:List (Nat×Ann):=[(1,⟨[(0,.rowR 10250000),(1,.val tI),(2,.val tI),(3,.val tI),(10,.val tI)],[],[.rowC 10250000 68 ah],aI _⟩),
 (200001,⟨[],[],[.rowC 10250000 68 ah],fun _=>0⟩)]
def lM:aA:=⟨[.mrow 68 ah,.val tI,.val tI,.val tI,.val (.clo 99 .unit)],[],fun x=>yy x.1 x.2.1 x.2.2.1 x.2.2.2.1 x.2.2.2.2.1⟩
noncomputable def vu:Cx:=⟨tpr,[],[]⟩
theorem vB:FB 241 lM:=fbk vu tC none (by intro x;kernel_rfl) (.nil _) Tryz.func241
def wJ:List (Nat×Ann):=[(2,⟨[(0,.rowR 10250000),(2,.val tI),(4,.val (.clo 99 .unit)),(10,.val tI),(11,.val tI)],[],[.rowC 10250000 68 ah],aI _⟩),
 (200002,⟨[(0,.rowR 10250000),(2,.val tI),(4,.val (.clo 99 .unit)),(10,.val tI)],[],[.rowC 10250000 68 ah],fun _=>0⟩)]
def mT:aA:=⟨[.mrow 68 ah,.val tI,.val tI,.val tI,.val (.clo 99 .unit)],[],fun x=>Aq x.1 x.2.1 x.2.2.1 x.2.2.2.1 x.2.2.2.2.1⟩
noncomputable def xS:Cx:=⟨tpr,[(241,lM)],[]⟩
theorem xV:FB 228 mT:=fbk xS wJ none (by intro x;kernel_rfl) (cz vB (.nil _)) Tryz.func228
def kR:List (Nat×Ann):=[(3,⟨[(0,.rowR 10250000),(1,.val tI),(4,.val (.clo 99 .unit)),(10,.val tI),(11,.val tI)],[],[.rowC 10250000 68 ah],aI _⟩),
 (9,⟨[(0,.rowR 10250000),(10,.val tI),(13,.val tI)],[],[.rowC 10250000 68 ah],aI _⟩),
 (15,⟨[(0,.rowR 10250000),(2,.val tI),(4,.val (.clo 99 .unit)),(14,.val tI),(15,.val tI)],[],[.rowC 10250000 68 ah],aI _⟩),
 (21,⟨[(0,.rowR 10250000),(14,.val tI),(17,.val tI)],[],[.rowC 10250000 68 ah],aI _⟩),
 (33,⟨[(0,.rowR 10250000),(1,.val tI),(2,.val tI),(3,.val tI),(4,.val (.clo 99 .unit)),(18,.val tI),(19,.val tI),(20,.val tI),(21,.val tI),(22,.val tI)],[],[.rowC 10250000 68 ah],aI _⟩),
 (100030,⟨[(0,.rowR 10250000),(1,.val tI),(2,.val tI),(3,.val tI),(4,.val (.clo 99 .unit)),(18,.val tI),(19,.val tI),(20,.val tI),(21,.val tI)],[],[.rowC 10250000 68 ah],fun _=>0⟩),
 (100040,⟨[(0,.rowR 10250000),(1,.val tI),(3,.val tI),(4,.val (.clo 99 .unit)),(18,.val tI),(20,.val tI),(24,.val tI)],[],[.rowC 10250000 68 ah],fun _=>0⟩),
 (100042,⟨[(0,.rowR 10250000),(3,.val tI),(4,.val (.clo 99 .unit)),(18,.val tI),(24,.val tI)],[],[.rowC 10250000 68 ah],fun _=>0⟩),
 (200003,⟨[(0,.rowR 10250000),(1,.val tI),(10,.val tI)],[],[.rowC 10250000 68 ah],fun _=>0⟩),
 (200009,⟨[],[],[.rowC 10250000 68 ah],fun _=>0⟩),
 (200015,⟨[(0,.rowR 10250000),(2,.val tI),(14,.val tI)],[],[.rowC 10250000 68 ah],fun _=>0⟩),
 (200021,⟨[],[],[.rowC 10250000 68 ah],fun _=>0⟩),
 (200033,⟨[(0,.rowR 10250000),(1,.val tI),(2,.val tI),(3,.val tI),(4,.val (.clo 99 .unit)),(18,.val tI),(19,.val tI),(20,.val tI)],[],[.rowC 10250000 68 ah],fun _=>0⟩)]
def bM:List PM:=[.mrow 68 ah,.val tI,.val tI,.val tI,.val (.clo 99 .unit)]
def cg:List RM:=[]
noncomputable def lz:List (Nat×aA):=[(99,gL),(228,mT)]
def lV:aA:=⟨bM,cg,fun x=>yJ x.1 x.2.1 x.2.2.1 x.2.2.2.1 x.2.2.2.2.1⟩
theorem vw:∀ (self:dn bM->Option (cF bM cg)) (x:dn bM),Ih ⟨tpr,(201,⟨bM,cg,self⟩)::lz,[]⟩ kR none Tryz.f201 ⟨bM,cg,fun x=>eP self x.1 x.2.1 x.2.2.1 x.2.2.2.1 x.2.2.2.2.1⟩ x=eP self x.1 x.2.1 x.2.2.1 x.2.2.2.1 x.2.2.2.2.1:=by intro self x;kernel_rfl
theorem lU:cH tpr 201:=dh Tryz.func201 rfl (by decide)
theorem wL:cQ tpr 201 lV:=De (ps:=bM) (rs:=cg) (m:=fun n x=>nL (fun self x=>eP self x.1 x.2.1 x.2.2.1 x.2.2.2.1 x.2.2.2.2.1) n x) (Br (P:=Tryz.prog) (specs:=lz) (ps:=bM) (rs:=cg) (cz jI (cz xV (.nil _))) (by kernel_rfl) (fun self x=>eP self x.1 x.2.1 x.2.2.1 x.2.2.2.1 x.2.2.2.2.1) kR none (by kernel_rfl) lU vw) (fun x=>u5 x.1 x.2.1 x.2.2.1 x.2.2.2.1 x.2.2.2.2.1)
def wK:List (Nat×Ann):=[(2,⟨[(0,.rowR 10250000),(1,.val tI),(2,.val (.clo 99 .unit)),(6,.val tI),(7,.val tI),(8,.val tI)],[],[.rowC 10250000 68 ah],aI _⟩),
 (7,⟨[(0,.rowR 10250000),(1,.val tI),(2,.val (.clo 99 .unit)),(6,.val tI)],[],[.rowC 10250000 68 ah],aI _⟩),
 (9,⟨[(0,.rowR 10250000),(1,.val tI),(2,.val (.clo 99 .unit)),(6,.val tI),(7,.val tI),(8,.val tI)],[],[.rowC 10250000 68 ah],aI _⟩),
 (200002,⟨[(0,.rowR 10250000),(1,.val tI),(2,.val (.clo 99 .unit)),(6,.val tI),(7,.val tI)],[],[.rowC 10250000 68 ah],fun _=>0⟩),
 (200007,⟨[],[],[.rowC 10250000 68 ah],fun _=>0⟩),
 (200009,⟨[(0,.rowR 10250000),(1,.val tI),(2,.val (.clo 99 .unit)),(6,.val tI),(7,.val tI)],[],[.rowC 10250000 68 ah],fun _=>0⟩)]
def mU:aA:=⟨[.mrow 68 ah,.val tI,.val (.clo 99 .unit)],[],fun x=>Ar x.1 x.2.1 x.2.2.1⟩
noncomputable def xT:Cx:=⟨tpr,[(200,jF),(201,lV)],[]⟩
theorem xW:FB 157 mU:=fbk xT wK none (by intro x;kernel_rfl) (cz rP (.cons wL lU (.nil _))) Tryz.func157
def mG:aA:=⟨[.mrow 68 ah,.val (.clo 99 .unit)],[],fun x=>jh x.1 x.2.1⟩
noncomputable def wO:Cx:=⟨tpr,[(157,mU)],[]⟩
theorem wP:FB 98 mG:=fbk wO [] none (by intro x;kernel_rfl) (cz xW (.nil _)) Tryz.func98
def GK:aA:=⟨[.val aR],[.val aR],fun x=>u7 x.1⟩
noncomputable def P6:Cx:=⟨tpr,[(127,mZ)],[]⟩
theorem Qf:FB 104 GK:=fbk P6 [] none (by intro x;kernel_rfl) (cz pL (.nil _)) Tryz.func104
def OA:List (Nat×Ann):=[(4,⟨[(2,.ref 2 0),(3,.ref 3 0),(4,.ref 4 0),(5,.ref 5 0),(6,.rowR 12),(7,.val (.slice (.int .u32))),(8,.val tI)],[(2,DL),(3,DL),(4,Q9),(5,Q9)],[.rowC 12 173 (.int .u32)],aI _⟩),
 (200004,⟨[(4,.ref 4 0),(5,.ref 5 0),(6,.rowR 12),(7,.val (.slice (.int .u32)))],[(4,Q9),(5,Q9)],[.rowC 12 173 (.int .u32)],fun _=>0⟩)]
def HS:aA:=⟨[.val aR,.val aR],[.val aR,.val aR],fun x=>xI x.1 x.2.1⟩
noncomputable def Rl:Cx:=⟨tpr,[(127,mZ),(128,NK),(129,Ax),(130,EH),(173,ux)],[]⟩
theorem RA:FB 177 HS:=fbk Rl OA none (by intro x;kernel_rfl) (cz pL (cz WT (cz FX (cz K9 (cz Ah (.nil _)))))) Tryz.func177
def L9:List (Nat×Ann):=[(5,⟨[(1,.val tI),(2,.ref 2 0),(6,.val (.int .u64)),(14,.val (.slice (.int .u32))),(15,.val tI),(16,.val tI)],[(2,DL)],[],aI _⟩),
 (200005,⟨[(1,.val tI),(2,.ref 2 0),(6,.val (.int .u64))],[(2,DL)],[],fun _=>0⟩)]
def GL:aA:=⟨[.val aR,.val tI],[.val tI,.val .bool],fun x=>z7 x.1 x.2.1⟩
noncomputable def P7:Cx:=⟨tpr,[],[]⟩
theorem Qg:FB 214 GL:=fbk P7 L9 none (by intro x;kernel_rfl) (.nil _) Tryz.func214
def Jv:aA:=⟨[.val aR,.val tI],[.val bN,.val tI],fun x=>yT x.1 x.2.1⟩
noncomputable def S5:Cx:=⟨tpr,[(214,GL)],[]⟩
theorem Tl:FB 178 Jv:=fbk S5 [] none (by intro x;kernel_rfl) (cz Qg (.nil _)) Tryz.func178
def L6:List (Nat×Ann):=[(2,⟨[(1,.val tI),(2,.ref 2 0),(4,.ref 4 0),(6,.ref 6 0)],[(2,DL),(4,[.val tI,.val tI]),(6,DL)],[],aI _⟩),
 (200002,⟨[(1,.val tI),(2,.ref 2 0),(4,.ref 4 0)],[(2,DL),(4,[.val tI,.val tI])],[],fun _=>0⟩)]
def GD:aA:=⟨[.val aR,.val tI],[.val bN,.val tI],fun x=>zx x.1 x.2.1⟩
noncomputable def PW:Cx:=⟨tpr,[(74,vo),(103,rG),(158,xC),(177,HS),(178,Jv)],[]⟩
theorem Qc:FB 136 GD:=fbk PW L6 none (by intro x;kernel_rfl) (cz yY (cz yF (cz DO (cz RA (cz Tl (.nil _)))))) Tryz.func136
def CU:aA:=⟨[.val aR],[.val bN,.val tI],fun x=>ze x.1⟩
noncomputable def Ta:Cx:=⟨tpr,[(136,GD)],[]⟩
theorem I7:FB 82 CU:=fbk Ta [] none (by intro x;kernel_rfl) (cz Qc (.nil _)) Tryz.func82
def uu:aA:=⟨[.val tI,.val .str,.val ah,.val aR],[.val aq,.val tI],fun x=>kM x.1 x.2.1 x.2.2.1 x.2.2.2.1⟩
noncomputable def J5:Cx:=⟨tpr,[(82,CU)],[]⟩
theorem Bk:FB 52 uu:=fbk J5 [] none (by intro x;kernel_rfl) (cz I7 (.nil _)) Tryz.func52
def L8:List (Nat×Ann):=[(6,⟨[(2,.ref 2 0),(3,.ref 3 0),(7,.own 35 aq),(24,.rowR 58640),(25,.val tI),(26,.val tI)],[(2,aaP),(3,Mj)],[.rowC 58640 68 ah],aI _⟩),
 (100013,⟨[(2,.ref 2 0),(3,.ref 3 0),(7,.own 35 aq),(9,.ref 9 0),(10,.ref 10 0),(11,.val tI),(24,.rowR 58640),(25,.val tI),(26,.val tI)],[(2,aaP),(3,Mj),(9,[.val .str,.val .str,.val .str,.val tI,.val tI]),(10,DL)],[.rowC 58640 68 ah],fun _=>0⟩),
 (200006,⟨[(7,.own 35 aq)],[],[],fun _=>0⟩)]
def GI:aA:=⟨[.val bh,.val aO],[.row 35 aq,.val tI],fun x=>zG x.1 x.2.1⟩
noncomputable def P5:Cx:=⟨tpr,[(52,uu),(67,uv),(97,sC),(98,mG),(100,fJ),(102,yN),(103,rG),(104,GK)],[]⟩
theorem Qe:FB 51 GI:=fbk P5 L8 none (by intro x;kernel_rfl) (cz Bk (cz Bl (cz Cv (cz wP (.cons y8 yZ (cz EN (cz yF (cz Qf (.nil _))))))))) Tryz.func51
end Go.Proofs.SeatU
end
