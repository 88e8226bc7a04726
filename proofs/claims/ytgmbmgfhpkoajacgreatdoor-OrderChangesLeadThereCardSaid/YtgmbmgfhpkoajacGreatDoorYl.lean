/-
  Each function that the law reaches is as its plain model says, a further part. No condition.
-/
import Derived.Test.YtgmbmgfhpkoajacGreatDoorYk
import Derived.Test.YtgmbmgfhpkoajacGreatDoorYi
set_option maxRecDepth 100000
noncomputable section
namespace Go.Proofs.SeatA
open Go.Dn Go.Md Go.Proofs
def Gy:List CK:=[.val .bool,.own 154 (.int .u32)]
def CH:List CK:=[.val .bool,.val (.slice (.int .u32))]
def Gz:List CK:=[.val .str,.val .str,.val .str,.val tI,.val tI,.own 43 aT]
def LC:List CK:=[.val .str,.val .str,.val .str,.val tI,.val tI,.val (.slice aT),.val (.slice ax),.map tI .hnd,.own 123 aA,.own 125 cN,.val tI]
def PR:List CK:=[.val .str,.val .str,.val .str,.val tI,.val tI,.val (.slice aT),.val (.slice ax),.mapR 10,.own 123 aA,.own 125 cN,.val tI]
def GA:List CK:=[.val .str,.val .str,.val .str,.val tI,.val tI,.val (.slice aT),.val (.slice ax),.mapR 10250003,.rowR 10250004,.rowR 10250005,.val tI]
def GB:List CK:=[.val tI,.val tI,.val tI,.val tI,.val tI,.val .str,.val tI,.val tI,.val .str,.val tI,.val tI,.val tI,.val tI]
def Et:List (Nat×Ann):=[(3,⟨[(0,.val (.slice ax)),(3,.val tI),(9,.val (.slice ax)),(10,.val tI),(11,.val tI)],[],[],br _⟩),
 (7,⟨[(0,.val (.slice ax)),(3,.val tI),(5,.ref 5 0),(6,.val tI),(9,.val (.slice ax)),(10,.val tI),(11,.val tI),(15,.val (.slice ax)),(16,.val tI),(17,.val tI)],[(5,GB)],[],br _⟩),
 (200003,⟨[(3,.val tI)],[],[],fun _=>0⟩),
 (200007,⟨[(0,.val (.slice ax)),(3,.val tI),(6,.val tI),(9,.val (.slice ax)),(10,.val tI),(11,.val tI)],[],[],fun _=>0⟩)]
def yW:ay:=⟨[.val (.slice ax)],[.val tI],fun x=>tr x.1⟩
noncomputable def GM:Cx:=⟨tpr,[],[]⟩
theorem G6:FB 6 yW:=fbk GM Et none (by intro x;kernel_rfl) (.nil _) Tryz.func6
def MM:List (Nat×Ann):=[(3,⟨[(0,.val (.slice ax)),(3,.own 52 ax),(8,.val (.slice ax)),(9,.val tI),(10,.val tI)],[],[],br _⟩),
 (8,⟨[(3,.own 52 ax),(19,.val (.slice ax)),(20,.val tI),(21,.val tI)],[],[],br _⟩),
 (200003,⟨[(0,.val (.slice ax)),(3,.own 52 ax)],[],[],fun _=>0⟩),
 (200008,⟨[(3,.own 52 ax)],[],[],fun _=>0⟩)]
def J3:ay:=⟨[.val (.slice ax)],[.val (.slice ax)],fun x=>HR x.1⟩
noncomputable def PU:Cx:=⟨tpr,[],[]⟩
theorem P7:FB 8 J3:=fbk PU MM none (by intro x;kernel_rfl) (.nil _) Tryz.func8
def rR:ay:=⟨[.val aY,.val (.slice ax)],[.val tI],fun x=>nA x.1 x.2.1⟩
noncomputable def Fw:Cx:=⟨tpr,[(10,nU),(15,jU)],[]⟩
theorem xF:FB 33 rR:=fbk Fw [] none (by intro x;kernel_rfl) (cz nS (cz jO (.nil _))) Tryz.func33
def jw:ay:=⟨[.val aA],[.val tI],fun x=>fD x.1⟩
noncomputable def Iz:Cx:=⟨tpr,[(96,uE)],[]⟩
theorem l6:FB 60 jw:=fbk Iz [] none (by intro x;kernel_rfl) (cz An (.nil _)) Tryz.func60
def zg:List (Nat×Ann):=[(3,⟨[(5,.ref 12 0),(14,.val (.slice aT)),(15,.val tI),(16,.val tI)],[(12,PR)],[.mapC 10 tI .hnd,.ar bG],br _⟩),
 (200003,⟨[(5,.ref 12 0)],[(12,PR)],[.mapC 10 tI .hnd,.ar bG],fun _=>0⟩)]
def mW:ay:=⟨[.val aY,.val (.slice ax),.ar bG],[.box [.val aY,.val (.slice ax),.map tI .hnd,.row 123 aA,.row 125 cN,.val tI]],fun x=>gz x.1 x.2.1 x.2.2.1⟩
noncomputable def AW:Cx:=⟨tpr,[(60,jw)],[]⟩
theorem sQ:FB 34 mW:=fbk AW zg none (by intro x;kernel_rfl) (cz l6 (.nil _)) Tryz.func34
def sF:ay:=⟨[.box [.val aY,.val (.slice ax),.map tI .hnd,.row 123 aA,.row 125 cN,.val tI],.val tI,.ar bG],[.val tI],fun x=>kP x.1 x.2.1 x.2.2.1⟩
noncomputable def Ad:Cx:=⟨tpr,[],[]⟩
theorem Am:FB 97 sF:=fbk Ad [] none (by intro x;kernel_rfl) (.nil _) Tryz.func97
def xo:List (Nat×Ann):=[(300002,⟨[(27,.val .bool)],[],[],fun _=>0⟩)]
def qL:ay:=⟨[.box [.val aY,.val (.slice ax),.map tI .hnd,.row 123 aA,.row 125 cN,.val tI],.val .hnd,.val tI,.ar bG],[.val tI],fun x=>jS x.1 x.2.1 x.2.2.1 x.2.2.2.1⟩
noncomputable def zu:Cx:=⟨tpr,[],[]⟩
theorem zB:FB 98 qL:=fbk zu xo none (by intro x;kernel_rfl) (.nil _) Tryz.func98
def o8:ay:=⟨[.box [.val aY,.val (.slice ax),.map tI .hnd,.row 123 aA,.row 125 cN,.val tI],.val .hnd,.val ax,.ar bG],[.val tI],fun x=>iI x.1 x.2.1 x.2.2.1 x.2.2.2.1⟩
noncomputable def xw:Cx:=⟨tpr,[(60,jw)],[]⟩
theorem xG:FB 99 o8:=fbk xw [] none (by intro x;kernel_rfl) (cz l6 (.nil _)) Tryz.func99
def pg:ay:=⟨[.val .hnd,.arR bG],[.val tI],fun x=>iM x.1 x.2.1⟩
noncomputable def CQ:Cx:=⟨tpr,[],[]⟩
theorem vn:FB 39 pg:=fbk CQ [] none (by intro x;kernel_rfl) (.nil _) Tryz.func39
def oA:ay:=⟨[.box [.val aY,.val (.slice ax),.map tI .hnd,.row 123 aA,.row 125 cN,.val tI],.val .hnd,.val ax,.ar bG],[.val tI],fun x=>ig x.1 x.2.1 x.2.2.1 x.2.2.2.1⟩
noncomputable def wK:Cx:=⟨tpr,[(39,pg),(60,jw)],[]⟩
theorem wL:FB 100 oA:=fbk wK [] none (by intro x;kernel_rfl) (cz vn (cz l6 (.nil _))) Tryz.func100
def qK:ay:=⟨[.box [.val aY,.val (.slice ax),.map tI .hnd,.row 123 aA,.row 125 cN,.val tI],.val .hnd,.val ax,.ar bG],[.val tI],fun x=>jR x.1 x.2.1 x.2.2.1 x.2.2.2.1⟩
noncomputable def zq:Cx:=⟨tpr,[],[]⟩
theorem zA:FB 101 qK:=fbk zq [] none (by intro x;kernel_rfl) (.nil _) Tryz.func101
def qJ:ay:=⟨[.box [.val aY,.val (.slice ax),.map tI .hnd,.row 123 aA,.row 125 cN,.val tI],.val .hnd,.val ax,.ar bG],[.val tI],fun x=>jQ x.1 x.2.1 x.2.2.1 x.2.2.2.1⟩
noncomputable def zo:Cx:=⟨tpr,[(60,jw)],[]⟩
theorem zz:FB 102 qJ:=fbk zo [] none (by intro x;kernel_rfl) (cz l6 (.nil _)) Tryz.func102
end Go.Proofs.SeatA
set_option maxRecDepth 100000
namespace Go.Proofs.SeatA
open Go.Dn Go.Md Go.Proofs
def xm:List (Nat×Ann):=[(100011,⟨[(0,.ref 2000 0),(1,.val tI),(5,.ref 5 0),(6,.val .hnd),(31,.val tI),(36,.val .bool)],[(5,GB),(2000,GA)],[.rowC 10250004 123 aA,.rowC 10250005 125 cN,.mapC 10250003 tI .hnd,.ar bG],fun _=>0⟩),
 (100015,⟨[(0,.ref 2000 0),(5,.ref 5 0),(6,.val .hnd),(31,.val tI),(44,.val .bool)],[(5,GB),(2000,GA)],[.rowC 10250004 123 aA,.rowC 10250005 125 cN,.mapC 10250003 tI .hnd,.ar bG],fun _=>0⟩),
 (100017,⟨[(5,.ref 5 0),(6,.val .hnd),(7,.val tI)],[(5,GB),(2000,LC)],[.ar bG],fun _=>0⟩),
 (300021,⟨[(69,.val .bool)],[],[],fun _=>0⟩)]
def qI:ay:=⟨[.box [.val aY,.val (.slice ax),.map tI .hnd,.row 123 aA,.row 125 cN,.val tI],.val tI,.ar bG],[.val tI],fun x=>aJ x.1 x.2.1 x.2.2.1⟩
noncomputable def zn:Cx:=⟨tpr,[(48,pe),(60,jw),(97,sF),(98,qL),(99,o8),(100,oA),(101,qK),(102,qJ)],[]⟩
theorem zy:FB 61 qI:=fbk zn xm none (by intro x;kernel_rfl) (cz vm (cz l6 (cz Am (cz zB (cz xG (cz wL (cz zA (cz zz (.nil _))))))))) Tryz.func61
def Eu:List (Nat×Ann):=[(4,⟨[(2,.ref 2 0),(3,.ref 3 0),(4,.ref 4 0),(5,.ref 5 0),(6,.rowR 12),(7,.val (.slice (.int .u32))),(8,.val tI)],[(2,CH),(3,CH),(4,Gy),(5,Gy)],[.rowC 12 154 (.int .u32)],br _⟩),
 (200004,⟨[(4,.ref 4 0),(5,.ref 5 0),(6,.rowR 12),(7,.val (.slice (.int .u32)))],[(4,Gy),(5,Gy)],[.rowC 12 154 (.int .u32)],fun _=>0⟩)]
def yX:ay:=⟨[.val cF,.val cF],[.val cF,.val cF],fun x=>pH x.1 x.2.1⟩
noncomputable def GN:Cx:=⟨tpr,[(107,kj),(131,DK),(132,mX),(133,rT),(134,wq)],[]⟩
theorem G7:FB 103 yX:=fbk GN Eu none (by intro x;kernel_rfl) (cz nt (cz LR (cz rG (cz xI (cz BX (.nil _)))))) Tryz.func103
def Cr:List (Nat×Ann):=[(2,⟨[(1,.val tI),(2,.ref 2 0),(4,.ref 4 0),(6,.ref 6 0)],[(2,CH),(4,[.val tI,.val tI]),(6,CH)],[],br _⟩),
 (200002,⟨[(1,.val tI),(2,.ref 2 0),(4,.ref 4 0)],[(2,CH),(4,[.val tI,.val tI])],[],fun _=>0⟩)]
def x9:ay:=⟨[.val cF,.val tI],[.val aA,.val tI],fun x=>qP x.1 x.2.1⟩
noncomputable def Ft:Cx:=⟨tpr,[(64,ve),(103,yX),(104,qn),(105,pn),(106,uD)],[]⟩
theorem FG:FB 63 x9:=fbk Ft Cr none (by intro x;kernel_rfl) (cz zE (cz G7 (cz wz (cz vo (cz Ak (.nil _)))))) Tryz.func63
def Ca:ay:=⟨[.val tI],[.val aA],fun x=>kR x.1⟩
noncomputable def Ku:Cx:=⟨tpr,[(63,x9),(64,ve)],[]⟩
theorem KE:FB 37 Ca:=fbk Ku [] none (by intro x;kernel_rfl) (cz FG (cz zE (.nil _))) Tryz.func37
def nW:ay:=⟨[.val .hnd,.arR bG],[.val Fg],fun x=>gT x.1 x.2.1⟩
noncomputable def Ci:Cx:=⟨tpr,[(37,Ca),(38,tv),(39,pg)],[]⟩
theorem tQ:FB 19 nW:=fbk Ci [] none (by intro x;kernel_rfl) (cz KE (cz yB (cz vn (.nil _)))) Tryz.func19
def yt:List (Nat×Ann):=[(1,⟨[(0,.ref 2000 0),(1,.val tI),(10,.val (.slice ax)),(11,.val tI),(12,.val tI)],[(2000,LC)],[.ar bG],br _⟩),
 (200001,⟨[],[(2000,LC)],[.ar bG],fun _=>0⟩)]
def mw:ay:=⟨[.box [.val aY,.val (.slice ax),.map tI .hnd,.row 123 aA,.row 125 cN,.val tI],.val tI,.ar bG],[],fun x=>fT x.1 x.2.1 x.2.2.1⟩
noncomputable def Ae:Cx:=⟨tpr,[(19,nW),(61,qI)],[]⟩
theorem sj:FB 35 mw:=fbk Ae yt none (by intro x;kernel_rfl) (cz tQ (cz zy (.nil _))) Tryz.func35
def E8:ay:=⟨[.val aY,.val (.slice ax),.val tI,.ar bG],[.box [.val aY,.val (.slice ax),.map tI .hnd,.row 123 aA,.row 125 cN,.val tI],.val tI],fun x=>Bv x.1 x.2.1 x.2.2.1 x.2.2.2.1⟩
noncomputable def MU:Cx:=⟨tpr,[(22,mu),(33,rR),(34,mW),(35,mw)],[]⟩
theorem M5:FB 17 E8:=fbk MU [] none (by intro x;kernel_rfl) (cz oI (cz xF (cz sQ (cz sj (.nil _))))) Tryz.func17
def B8:ay:=⟨[.val aY,.val (.slice ax),.val tI,.ar bG],[.val .hnd,.val tI],fun x=>wP x.1 x.2.1 x.2.2.1 x.2.2.2.1⟩
noncomputable def Ks:Cx:=⟨tpr,[(22,mu),(33,rR),(34,mW),(35,mw)],[]⟩
theorem KD:FB 17 B8:=fbk Ks [] none (by intro x;kernel_rfl) (cz oI (cz xF (cz sQ (cz sj (.nil _))))) Tryz.func17
def vT:List (Nat×Ann):=[(3,⟨[(0,.ref 2000 0),(3,.own 61 .hnd),(11,.rowR 11),(12,.val tI),(13,.val tI)],[(2000,GA)],[.rowC 11 3 tI,.rowC 10250004 123 aA,.rowC 10250005 125 cN,.mapC 10250003 tI .hnd],br _⟩),
 (200003,⟨[(3,.own 61 .hnd)],[(2000,GA)],[.rowC 10250004 123 aA,.rowC 10250005 125 cN,.mapC 10250003 tI .hnd],fun _=>0⟩)]
def o9:ay:=⟨[.box [.val aY,.val (.slice ax),.map tI .hnd,.row 123 aA,.row 125 cN,.val tI]],[.row 61 .hnd],fun x=>iL x.1⟩
noncomputable def xz:Cx:=⟨tpr,[],[(12,Qf),(36,Qg)]⟩
theorem xH:FB 18 o9:=fbk xz vT none (by intro x;kernel_rfl) (.RY Tb S9 (.RY Td Ta (.nil _))) Tryz.func18
def Es:List (Nat×Ann):=[(7,⟨[(4,.ref 4 0),(8,.ref 8 0),(25,.rowR 62736),(26,.val tI),(27,.val tI)],[(4,Gz),(8,Gz)],[.rowC 62736 61 .hnd,.ar bG],br _⟩),
 (200007,⟨[(4,.ref 4 0),(8,.ref 8 0)],[(4,Gz),(8,Gz)],[.ar bG],fun _=>0⟩)]
def yU:ay:=⟨[.val aY,.val (.slice ax)],[.val aY,.val tI],fun x=>s7 x.1 x.2.1⟩
noncomputable def GI:Cx:=⟨tpr,[(17,B8),(17,E8),(18,o9),(19,nW)],[]⟩
theorem GZ:FB 7 yU:=fbk GI Es (some bG) (by intro x;kernel_rfl) (cz KD (cz M5 (cz xH (cz tQ (.nil _))))) Tryz.func7
end Go.Proofs.SeatA
end
