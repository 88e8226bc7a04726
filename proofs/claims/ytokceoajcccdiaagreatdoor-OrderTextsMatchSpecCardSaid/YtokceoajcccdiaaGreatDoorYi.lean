/-
  Each function that the law reaches is as its plain model says, a further part. No condition.
-/
import Derived.Test.YtokceoajcccdiaaGreatDoorYy
set_option maxRecDepth 100000
noncomputable section
namespace Go.Proofs.SeatU
open Go.Dn Go.Md Go.Proofs
def yl:List CK:=[.val (.slice .str),.val .bool]
def Ft:List CK:=[.val .bool,.own 120 (.int .u32)]
def lX:List CK:=[.val .bool,.val (.slice (.int .u32))]
def Bv:List CK:=[.val .bool,.val .bool,.val .bool,.val .bool,.val .bool,.val .bool]
def lY:List CK:=[.val tI,.val tI,.val tI,.val tI,.val tI,.val .str,.val tI,.val tI,.val .str,.val tI,.val tI,.val tI,.val tI]
def iO:aq:=⟨[.val .str,.val .str],[.val .bool],fun x=>fX x.1 x.2.1⟩
noncomputable def oF:Cx:=⟨tpr,[],[]⟩
theorem oK:FB 82 iO:=fbk oF [] none (by intro x;kernel_rfl) (.nil _) Tryz.func82
def iM:aq:=⟨[.val .str,.val .str],[.val .str,.val .bool],fun x=>fV x.1 x.2.1⟩
noncomputable def oD:Cx:=⟨tpr,[(82,iO)],[]⟩
theorem oI:FB 58 iM:=fbk oD [] none (by intro x;kernel_rfl) (cz oK (.nil _)) Tryz.func58
def rF:aq:=⟨[.val .str,.val .str],[.val .str,.val .bool],fun x=>kr x.1 x.2.1⟩
noncomputable def zB:Cx:=⟨tpr,[(58,iM)],[]⟩
theorem zJ:FB 38 rF:=fbk zB [] none (by intro x;kernel_rfl) (cz oI (.nil _)) Tryz.func38
def CG:aq:=⟨[.val .str],[.val (.slice .str),.val .bool],fun x=>wW x.1⟩
noncomputable def Kw:Cx:=⟨tpr,[(35,qc),(38,rF)],[]⟩
theorem KN:FB 17 CG:=fbk Kw [] none (by intro x;kernel_rfl) (.cons vP pU (cz zJ (.nil _))) Tryz.func17
def He:List (Nat×Ann):=[(3,⟨[(4,.rowR 27920),(9,.rowR 27920),(10,.val tI),(11,.val tI)],[],[.rowC 27920 9 .str],bL _⟩),
 (200003,⟨[(4,.rowR 27920)],[],[.rowC 27920 9 .str],fun _=>0⟩)]
def CI:aq:=⟨[.val .str],[.val (.slice .str),.val .bool],fun x=>wX x.1⟩
noncomputable def Kx:Cx:=⟨tpr,[(35,qc)],[]⟩
theorem KO:FB 39 CI:=fbk Kx He none (by intro x;kernel_rfl) (.cons vP pU (.nil _)) Tryz.func39
def gH:aq:=⟨[.box [.val (.slice .str),.val .bool]],[.val .str],fun x=>eI x.1⟩
noncomputable def A5:Cx:=⟨tpr,[],[]⟩
theorem jg:FB 42 gH:=fbk A5 [] none (by intro x;kernel_rfl) (.nil _) Tryz.func42
def qB:aq:=⟨[.box [.val (.slice .str),.val .bool]],[.val tI],fun x=>dN x.1⟩
noncomputable def yu:Cx:=⟨tpr,[(42,gH),(59,AO)],[]⟩
theorem yC:FB 40 qB:=fbk yu [] none (by intro x;kernel_rfl) (cz jg (.cons JK JE (.nil _))) Tryz.func40
def vu:List (Nat×Ann):=[(2,⟨[(0,.val (.slice .str)),(1,.val .str),(7,.val tI),(8,.val tI)],[],[],bL _⟩),
 (200002,⟨[],[],[],fun _=>0⟩)]
def oW:aq:=⟨[.val (.slice .str),.val .str],[.val tI],fun x=>eg x.1 x.2.1⟩
noncomputable def xw:Cx:=⟨tpr,[],[]⟩
theorem xD:FB 60 oW:=fbk xw vu none (by intro x;kernel_rfl) (.nil _) Tryz.func60
def rC:aq:=⟨[.box [.val (.slice .str),.val .bool],.val (.slice .str)],[.val tI],fun x=>iy x.1 x.2.1⟩
noncomputable def zz:Cx:=⟨tpr,[(42,gH),(60,oW)],[]⟩
theorem zH:FB 41 rC:=fbk zz [] none (by intro x;kernel_rfl) (cz jg (cz xD (.nil _))) Tryz.func41
def iN:aq:=⟨[.val .str,.val .str],[.val .bool],fun x=>fW x.1 x.2.1⟩
noncomputable def oE:Cx:=⟨tpr,[],[]⟩
theorem oJ:FB 144 iN:=fbk oE [] none (by intro x;kernel_rfl) (.nil _) Tryz.func144
def iL:aq:=⟨[.val .str,.val .str],[.val .str,.val .bool],fun x=>fU x.1 x.2.1⟩
noncomputable def oC:Cx:=⟨tpr,[(144,iN)],[]⟩
theorem oH:FB 111 iL:=fbk oC [] none (by intro x;kernel_rfl) (cz oJ (.nil _)) Tryz.func111
def rE:aq:=⟨[.val .str,.val .str],[.val .str,.val .bool],fun x=>iC x.1 x.2.1⟩
noncomputable def zA:Cx:=⟨tpr,[(111,iL)],[]⟩
theorem zI:FB 85 rE:=fbk zA [] none (by intro x;kernel_rfl) (cz oH (.nil _)) Tryz.func85
def kg:aq:=⟨[.val .str,.val .str],[.val tI],fun x=>fB x.1 x.2.1⟩
noncomputable def rS:Cx:=⟨tpr,[(138,fy)],[]⟩
theorem rT:FB 105 kg:=fbk rS [] none (by intro x;kernel_rfl) (.cons oM oL (.nil _)) Tryz.func105
def lp:aq:=⟨[.val .str,.val .str],[.val .str,.val .str,.val .bool],fun x=>iT x.1 x.2.1⟩
noncomputable def tG:Cx:=⟨tpr,[(105,kg)],[]⟩
theorem tK:FB 112 lp:=fbk tG [] none (by intro x;kernel_rfl) (cz rT (.nil _)) Tryz.func112
def zb:aq:=⟨[.val .str,.val .str],[.val .str,.val .str,.val .bool],fun x=>oZ x.1 x.2.1⟩
noncomputable def Hv:Cx:=⟨tpr,[(112,lp)],[]⟩
theorem HP:FB 86 zb:=fbk Hv [] none (by intro x;kernel_rfl) (cz tK (.nil _)) Tryz.func86
def AW:List (Nat×Ann):=[(300001,⟨[(2,.val .bool)],[],[],fun _=>0⟩)]
def uK:aq:=⟨[.val .str],[.val .bool],fun x=>nO x.1⟩
noncomputable def Dy:Cx:=⟨tpr,[(83,iq)],[]⟩
theorem DG:FB 87 uK:=fbk Dy AW none (by intro x;kernel_rfl) (.cons qW wS (.nil _)) Tryz.func87
def zw:List (Nat×Ann):=[(3,⟨[(2,.ref 2 0),(3,.ref 3 0),(4,.ref 4 0),(5,.rowR 18),(20,.val (.slice (.int .u32))),(21,.val tI),(22,.val tI)],[(2,lX),(3,lX),(4,Ft)],[.rowC 18 120 (.int .u32)],bL _⟩),
 (7,⟨[(2,.ref 2 0),(3,.ref 3 0),(4,.ref 4 0),(5,.rowR 18),(6,.val tI),(7,.val (.int .u32)),(8,.val (.int .u64)),(20,.val (.slice (.int .u32))),(21,.val tI),(22,.val tI),(28,.val (.slice (.int .u32))),(29,.val tI),(30,.val tI)],[(2,lX),(3,lX),(4,Ft)],[.rowC 18 120 (.int .u32)],bL _⟩),
 (200003,⟨[(2,.ref 2 0),(3,.ref 3 0),(4,.ref 4 0),(5,.rowR 18)],[(2,lX),(3,lX),(4,Ft)],[.rowC 18 120 (.int .u32)],fun _=>0⟩),
 (200007,⟨[(2,.ref 2 0),(3,.ref 3 0),(4,.ref 4 0),(5,.rowR 18),(6,.val tI),(8,.val (.int .u64)),(20,.val (.slice (.int .u32))),(21,.val tI),(22,.val tI)],[(2,lX),(3,lX),(4,Ft)],[.rowC 18 120 (.int .u32)],fun _=>0⟩)]
def uk:aq:=⟨[.val cT,.val cT],[.val cT],fun x=>jR x.1 x.2.1⟩
noncomputable def BJ:Cx:=⟨tpr,[(95,jv)],[]⟩
theorem BZ:FB 113 uk:=fbk BJ zw none (by intro x;kernel_rfl) (cz l6 (.nil _)) Tryz.func113
def Ew:List (Nat×Ann):=[(6,⟨[(1,.val (.slice (.int .u32))),(5,.own 120 (.int .u32)),(6,.val (.int .u64)),(20,.val (.slice (.int .u32))),(21,.val tI),(22,.val tI)],[],[],bL _⟩),
 (100002,⟨[(0,.val (.slice (.int .u32))),(1,.val (.slice (.int .u32)))],[],[],fun _=>0⟩),
 (100010,⟨[(1,.val (.slice (.int .u32))),(5,.own 120 (.int .u32)),(6,.val (.int .u64)),(20,.val (.slice (.int .u32))),(21,.val tI),(22,.val tI)],[],[],fun _=>0⟩),
 (200006,⟨[(5,.own 120 (.int .u32)),(6,.val (.int .u64))],[],[],fun _=>0⟩)]
def ze:aq:=⟨[.val (.slice (.int .u32)),.val (.slice (.int .u32))],[.val (.slice (.int .u32))],fun x=>x7 x.1 x.2.1⟩
noncomputable def Hw:Cx:=⟨tpr,[],[]⟩
theorem HQ:FB 150 ze:=fbk Hw Ew none (by intro x;kernel_rfl) (.nil _) Tryz.func150
def Bj:List (Nat×Ann):=[(4,⟨[(0,.val (.slice (.int .u32))),(1,.val (.slice (.int .u32))),(5,.val tI)],[],[],bL _⟩),
 (200004,⟨[],[],[],fun _=>0⟩)]
def wz:aq:=⟨[.val (.slice (.int .u32)),.val (.slice (.int .u32))],[.val tI],fun x=>pQ x.1 x.2.1⟩
noncomputable def EF:Cx:=⟨tpr,[],[]⟩
theorem EO:FB 151 wz:=fbk EF Bj none (by intro x;kernel_rfl) (.nil _) Tryz.func151
def Fk:List (Nat×Ann):=[(4,⟨[(1,.val (.slice (.int .u32))),(5,.own 120 (.int .u32)),(6,.val (.int .u64)),(13,.val (.slice (.int .u32))),(14,.val tI),(15,.val tI)],[],[],bL _⟩),
 (100008,⟨[(1,.val (.slice (.int .u32))),(5,.own 120 (.int .u32)),(9,.val (.int .u64)),(13,.val (.slice (.int .u32))),(14,.val tI),(15,.val tI)],[],[],fun _=>0⟩),
 (200004,⟨[(5,.own 120 (.int .u32))],[],[],fun _=>0⟩)]
def AR:aq:=⟨[.val (.slice (.int .u32)),.val (.slice (.int .u32))],[.val (.slice (.int .u32))],fun x=>rO x.1 x.2.1⟩
noncomputable def Jy:Cx:=⟨tpr,[(98,lP)],[]⟩
theorem JD:FB 152 AR:=fbk Jy Fk none (by intro x;kernel_rfl) (cz lD (.nil _)) Tryz.func152
def uP:aq:=⟨[.val cT,.val cT],[.val cT],fun x=>kU x.1 x.2.1⟩
noncomputable def DD:Cx:=⟨tpr,[(95,jv),(150,ze),(151,wz),(152,AR)],[]⟩
theorem DK:FB 114 uP:=fbk DD [] none (by intro x;kernel_rfl) (cz l6 (cz HQ (cz EO (cz JD (.nil _))))) Tryz.func114
def uQ:aq:=⟨[.val cT],[.val tI],fun x=>kV x.1⟩
noncomputable def DE:Cx:=⟨tpr,[],[]⟩
theorem DL:FB 115 uQ:=fbk DE [] none (by intro x;kernel_rfl) (.nil _) Tryz.func115
def uj:aq:=⟨[.val cT],[.val cT],fun x=>jQ x.1⟩
noncomputable def BI:Cx:=⟨tpr,[(95,jv)],[]⟩
theorem BY:FB 116 uj:=fbk BI [] none (by intro x;kernel_rfl) (cz l6 (.nil _)) Tryz.func116
def Bi:List (Nat×Ann):=[(5,⟨[(1,.val tI),(2,.ref 2 0),(6,.val (.int .u64)),(14,.val (.slice (.int .u32))),(15,.val tI),(16,.val tI)],[(2,lX)],[],bL _⟩),
 (200005,⟨[(1,.val tI),(2,.ref 2 0),(6,.val (.int .u64))],[(2,lX)],[],fun _=>0⟩)]
def wu:aq:=⟨[.val cT,.val tI],[.val tI,.val .bool],fun x=>pP x.1 x.2.1⟩
noncomputable def EE:Cx:=⟨tpr,[],[]⟩
theorem EN:FB 153 wu:=fbk EE Bi none (by intro x;kernel_rfl) (.nil _) Tryz.func153
def yU:aq:=⟨[.val cT,.val tI],[.val bA,.val tI],fun x=>mj x.1 x.2.1⟩
noncomputable def Hl:Cx:=⟨tpr,[(153,wu)],[]⟩
theorem HA:FB 117 yU:=fbk Hl [] none (by intro x;kernel_rfl) (cz EN (.nil _)) Tryz.func117
def Eu:List (Nat×Ann):=[(3,⟨[(0,.val .bool),(1,.val .str),(2,.val .str),(6,.ref 6 0),(8,.ref 8 0),(14,.val tI),(15,.val tI)],[(6,[.val tI,.val tI]),(8,lX)],[],bL _⟩),
 (200003,⟨[(0,.val .bool),(2,.val .str),(6,.ref 6 0),(8,.ref 8 0)],[(6,[.val tI,.val tI]),(8,lX)],[],fun _=>0⟩)]
def yX:aq:=⟨[.val .bool,.val .str,.val .str],[.val bA,.val tI],fun x=>sS x.1 x.2.1 x.2.2.1⟩
noncomputable def Hq:Cx:=⟨tpr,[(68,xY),(113,uk),(114,uP),(115,uQ),(116,uj),(117,yU)],[]⟩
theorem HJ:FB 88 yX:=fbk Hq Eu none (by intro x;kernel_rfl) (cz D5 (cz BZ (cz DK (cz DL (cz BY (cz HA (.nil _))))))) Tryz.func88
def zo:List (Nat×Ann):=[(300003,⟨[(40,.val .bool)],[],[],fun _=>0⟩)]
def tZ:aq:=⟨[.val .str],[.val bA,.val tI],fun x=>mJ x.1⟩
noncomputable def BB:Cx:=⟨tpr,[(83,iq),(85,rE),(86,zb),(87,uK),(88,yX)],[]⟩
theorem BQ:FB 61 tZ:=fbk BB zo none (by intro x;kernel_rfl) (.cons qW wS (cz zI (cz HP (cz DG (cz HJ (.nil _)))))) Tryz.func61
def oU:aq:=⟨[.box [.val (.slice .str),.val .bool]],[.val bA],fun x=>gE x.1⟩
noncomputable def xq:Cx:=⟨tpr,[(42,gH),(61,tZ)],[]⟩
theorem xB:FB 43 oU:=fbk xq [] none (by intro x;kernel_rfl) (cz jg (cz BQ (.nil _))) Tryz.func43
def AY:List (Nat×Ann):=[(100008,⟨[(2,.ref 2 0),(6,.ref 19 0),(7,.ref 7 0),(8,.ref 8 0)],[(2,lY),(7,lY),(8,Bv),(19,yl)],[],fun _=>0⟩),
 (100010,⟨[(2,.ref 2 0),(6,.ref 19 0),(7,.ref 7 0),(8,.ref 8 0)],[(2,lY),(7,lY),(8,Bv),(19,yl)],[],fun _=>0⟩),
 (100012,⟨[(2,.ref 2 0),(6,.ref 19 0),(7,.ref 7 0),(8,.ref 8 0)],[(2,lY),(7,lY),(8,Bv),(19,yl)],[],fun _=>0⟩),
 (100014,⟨[(2,.ref 2 0),(6,.ref 19 0),(7,.ref 7 0),(8,.ref 8 0)],[(2,lY),(7,lY),(8,Bv),(19,yl)],[],fun _=>0⟩),
 (100016,⟨[(2,.ref 2 0),(6,.ref 19 0),(7,.ref 7 0),(8,.ref 8 0)],[(2,lY),(7,lY),(8,Bv),(19,yl)],[],fun _=>0⟩),
 (100018,⟨[(2,.ref 2 0),(6,.ref 19 0),(7,.ref 7 0)],[(2,lY),(7,lY),(19,yl)],[],fun _=>0⟩)]
def uN:aq:=⟨[.val .str],[.val aH,.val .bool],fun x=>aQ x.1⟩
noncomputable def DB:Cx:=⟨tpr,[(23,qb),(24,nB),(25,mU),(39,CI),(40,qB),(41,rC),(42,gH),(43,oU)],[]⟩
theorem DI:FB 18 uN:=fbk DB AY none (by intro x;kernel_rfl) (cz vI (cz tL (cz qK (cz KO (cz yC (cz zH (cz jg (cz xB (.nil _))))))))) Tryz.func18
end Go.Proofs.SeatU
end
