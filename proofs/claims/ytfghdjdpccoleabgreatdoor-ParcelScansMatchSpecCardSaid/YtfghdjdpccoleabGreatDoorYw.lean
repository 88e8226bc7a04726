/-
  Each function that the law reaches is as its plain model says. No condition.
-/
import Derived.Test.YtfghdjdpccoleabGreatDoorYx
import Derived.Test.YtfghdjdpccoleabGreatDoorYj
set_option maxRecDepth 100000
noncomputable section
namespace Go.Proofs
abbrev tpr:=Tryz.prog
end Go.Proofs
namespace Go.Proofs.SeatU
open Go.Dn Go.Md Go.Proofs
theorem abp:Tryz.prog.follows .mixedOrders=true:=by kernel_rfl
def Zx (X:Cx) (anns:List (Nat×Ann)) (ar:Option Ty) (fn:Func) (sp:aA):Prop:=∀ x,Ih X anns ar fn sp x=sp.m x
theorem Ro {X:Cx} {anns:List (Nat×Ann)} {ar:Option Ty} {fn:Func} {sp:aA} (h:Zx X anns ar fn sp) (hX:b7 X) (hm:X.P.follows .mixedOrders=true) {f:FuncId} (hf:X.P.funcs[f]? =some fn):cQ X.P f sp:=aaZ hX hm sp anns ar hf fun x _ e=>(h x).trans e
def FB (f:Nat) (sp:aA):Prop:=cQ tpr f sp/\cH tpr f
theorem fbk (X:Cx) (anns:List (Nat×Ann)) (ar:Option Ty) {fn:Func} {sp:aA} {f:Nat} (h:Zx X anns ar fn sp) (hX:b7 X) (hf:tpr.funcs[f]? =some fn) (e:X.P=tpr:=by exact rfl) (h1:fn.body.isSome=true:=by exact rfl) (h2:fn.name≠ "runtime.NumGoroutine" :=by decide):FB f sp:=by
 have k:=Ro h hX (by rw[e];exact abp) (by rw[e];exact hf)
 rw[e] at k
 exact⟨k,dh hf h1 h2⟩
theorem cz {f:Nat} {sp:aA} {r:List (Nat×aA)} {ks:List (Nat×Ei)} (h:FB f sp) (t:b7 ⟨tpr,r,ks⟩):b7 ⟨tpr,(f,sp)::r,ks⟩:= .cons h.1 h.2 t
def FI:List CK:=[.val .bool,.own 173 (.int .u32)]
def yV:List CK:=[.val .bool,.val (.slice (.int .u32))]
def DK:List CK:=[.val .str,.val .str,.val tI,.val (.slice bh)]
def EE:aA:=⟨[.val .str],[.val .bool],fun x=>ij x.1⟩
noncomputable def Vj:Cx:=⟨tpr,[(155,B3)],[]⟩
theorem K6:FB 90 EE:=fbk Vj [] none (by intro x;kernel_rfl) (.cons R6 RI (.nil _)) Tryz.func90
def su:aA:=⟨[.val tI,.val tI,.val tI],[.val .bool],fun x=>nP x.1 x.2.1 x.2.2.1⟩
noncomputable def S7:Cx:=⟨tpr,[],[]⟩
theorem xU:FB 86 su:=fbk S7 [] none (by intro x;kernel_rfl) (.nil _) Tryz.func86
def Nx:aA:=⟨[.val tI],[.val .bool],fun x=>Ht x.1⟩
noncomputable def Wm:Cx:=⟨tpr,[(86,su)],[]⟩
theorem WH:FB 91 Nx:=fbk Wm [] none (by intro x;kernel_rfl) (cz xU (.nil _)) Tryz.func91
def Av:aA:=⟨[.val tI],[.val .bool],fun x=>zy x.1⟩
noncomputable def PY:Cx:=⟨tpr,[(86,su)],[]⟩
theorem FQ:FB 143 Av:=fbk PY [] none (by intro x;kernel_rfl) (cz xU (.nil _)) Tryz.func143
def ES:aA:=⟨[.val tI],[.val (.slice tI)],fun x=>Cl x.1⟩
noncomputable def OB:Cx:=⟨tpr,[],[]⟩
theorem OM:FB 186 ES:=fbk OB [] none (by intro x;kernel_rfl) (.nil _) Tryz.func186
def IP:List (Nat×Ann):=[(2,⟨[(0,.val (.slice tI)),(1,.val tI),(7,.val tI),(8,.val tI)],[],[],aI _⟩),
 (200002,⟨[],[],[],fun _=>0⟩)]
def Ci:aA:=⟨[.val (.slice tI),.val tI],[.val tI],fun x=>Ap x.1 x.2.1⟩
noncomputable def LC:Cx:=⟨tpr,[],[]⟩
theorem LJ:FB 96 Ci:=fbk LC IP none (by intro x;kernel_rfl) (.nil _) Tryz.func96
def ru:aA:=⟨[.val (.slice tI),.val tI],[.val .bool],fun x=>lG x.1 x.2.1⟩
noncomputable def Ig:Cx:=⟨tpr,[(96,Ci)],[]⟩
theorem yX:FB 49 ru:=fbk Ig [] none (by intro x;kernel_rfl) (cz LJ (.nil _)) Tryz.func49
def PF:List (Nat×Ann):=[(2,⟨[(0,.val .str),(1,.val (.int .u8)),(2,.val (.int .u8)),(9,.val tI),(10,.val tI)],[],[],aI _⟩),
 (200002,⟨[],[],[],fun _=>0⟩)]
def Jw:aA:=⟨[.val .str,.val (.int .u8),.val (.int .u8)],[.val .bool],fun x=>Io x.1 x.2.1 x.2.2.1⟩
noncomputable def S6:Cx:=⟨tpr,[],[]⟩
theorem Tm:FB 181 Jw:=fbk S6 PF none (by intro x;kernel_rfl) (.nil _) Tryz.func181
def BX:aA:=⟨[.val .str],[.val .bool],fun x=>wT x.1⟩
noncomputable def Re:Cx:=⟨tpr,[(181,Jw)],[]⟩
theorem Ho:FB 141 BX:=fbk Re [] none (by intro x;kernel_rfl) (cz Tm (.nil _)) Tryz.func141
def Ow:List (Nat×Ann):=[(3,⟨[(0,.val .str),(3,.val tI),(7,.val tI),(8,.val tI)],[],[],aI _⟩),
 (200003,⟨[(3,.val tI)],[],[],fun _=>0⟩)]
def HK:aA:=⟨[.val .str],[.val .bool],fun x=>FE x.1⟩
noncomputable def Rc:Cx:=⟨tpr,[],[]⟩
theorem Rw:FB 187 HK:=fbk Rc Ow none (by intro x;kernel_rfl) (.nil _) Tryz.func187
def xo:aA:=⟨[.val tI,.val .str],[.val .bool],fun x=>vR x.1 x.2.1⟩
noncomputable def Mp:Cx:=⟨tpr,[(49,ru),(141,BX),(147,Au),(185,HL),(186,ES),(187,HK)],[]⟩
theorem DN:FB 148 xo:=fbk Mp [] none (by intro x;kernel_rfl) (cz yX (cz Ho (.cons Ge F7 (.cons R3 RF (cz OM (cz Rw (.nil _))))))) Tryz.func148
def D6:aA:=⟨[.val tI,.val .str],[.val .bool,.val tI],fun x=>A5 x.1 x.2.1⟩
noncomputable def Mo:Cx:=⟨tpr,[(143,Av),(148,xo)],[]⟩
theorem MC:FB 114 D6:=fbk Mo [] none (by intro x;kernel_rfl) (cz FQ (cz DN (.nil _))) Tryz.func114
def yK:aA:=⟨[.val .str],[.val .bool],fun x=>rZ x.1⟩
noncomputable def OF:Cx:=⟨tpr,[(114,D6)],[]⟩
theorem EL:FB 64 yK:=fbk OF [] none (by intro x;kernel_rfl) (cz MC (.nil _)) Tryz.func64
def zm:aA:=⟨[.val bN],[.val tI],fun x=>lu x.1⟩
noncomputable def Ib:Cx:=⟨tpr,[(86,su)],[]⟩
theorem Ij:FB 164 zm:=fbk Ib [] none (by intro x;kernel_rfl) (cz xU (.nil _)) Tryz.func164
def PG:List (Nat×Ann):=[(3,⟨[(3,.val tI),(4,.val tI),(5,.val tI)],[],[],aI _⟩),
 (200003,⟨[(3,.val tI)],[],[],fun _=>0⟩)]
def Jx:aA:=⟨[.val tI],[.val tI],fun x=>It x.1⟩
noncomputable def S8:Cx:=⟨tpr,[],[]⟩
theorem Tn:FB 203 Jx:=fbk S8 PG none (by intro x;kernel_rfl) (.nil _) Tryz.func203
def HM:aA:=⟨[.val bN,.val tI,.val tI],[.val .bool],fun x=>Bx x.1 x.2.1 x.2.2.1⟩
noncomputable def Rf:Cx:=⟨tpr,[(203,Jx)],[]⟩
theorem Rx:FB 165 HM:=fbk Rf [] none (by intro x;kernel_rfl) (cz Tn (.nil _)) Tryz.func165
def rq:aA:=⟨[.val bN,.val .bool],[.val tI],fun x=>dY x.1 x.2.1⟩
noncomputable def Ic:Cx:=⟨tpr,[(164,zm),(165,HM)],[]⟩
theorem yW:FB 115 rq:=fbk Ic [] none (by intro x;kernel_rfl) (cz Ij (cz Rx (.nil _))) Tryz.func115
def QV:List (Nat×Ann):=[(3,⟨[(3,.val tI),(6,.val (.slice tI)),(7,.val tI),(8,.val tI)],[],[],aI _⟩),
 (200003,⟨[(3,.val tI)],[],[],fun _=>0⟩)]
def ED:aA:=⟨[.val (.slice tI)],[.val tI],fun x=>Bc x.1⟩
noncomputable def Vi:Cx:=⟨tpr,[],[]⟩
theorem K5:FB 21 ED:=fbk Vi QV none (by intro x;kernel_rfl) (.nil _) Tryz.func21
def gL:aA:=⟨[.val ah,.val ah],[.val tI],fun x=>bE x.1 x.2.1⟩
noncomputable def E8:Cx:=⟨tpr,[(21,ED),(22,gY)],[]⟩
theorem jI:FB 99 gL:=fbk E8 [] none (by intro x;kernel_rfl) (cz K5 (.cons mo mj (.nil _))) Tryz.func99
def E4:List (Nat×Ann):=[(4,⟨[(0,.val (.slice ah)),(9,.val (.slice ah)),(10,.val tI),(11,.val tI)],[],[],aI _⟩),
 (200004,⟨[],[],[],fun _=>0⟩)]
def pI:aA:=⟨[.val (.slice ah)],[.val tI],fun x=>iq x.1⟩
noncomputable def GZ:Cx:=⟨tpr,[(90,EE),(99,gL),(115,rq)],[]⟩
theorem yC:FB 65 pI:=fbk GZ E4 none (by intro x;kernel_rfl) (cz K6 (cz jI (cz yW (.nil _)))) Tryz.func65
def AW:aA:=⟨[.val (.slice bh),.val tI],[.val tI],fun x=>qv x.1 x.2.1⟩
noncomputable def I2:Cx:=⟨tpr,[(64,yK),(65,pI),(115,rq)],[]⟩
theorem I6:FB 92 AW:=fbk I2 [] none (by intro x;kernel_rfl) (cz EL (cz yC (cz yW (.nil _)))) Tryz.func92
def BY:aA:=⟨[.val bh,.val .str],[.val tI],fun x=>yG x.1 x.2.1⟩
noncomputable def J6:Cx:=⟨tpr,[(22,gY)],[]⟩
theorem Kh:FB 95 BY:=fbk J6 [] none (by intro x;kernel_rfl) (.cons mo mj (.nil _)) Tryz.func95
def pz:List (Nat×Ann):=[(3,⟨[(0,.val (.slice bh)),(1,.val .str),(2,.val (.clo 95 .unit)),(8,.val tI),(9,.val tI),(10,.val tI)],[],[],aI _⟩),
 (200003,⟨[(0,.val (.slice bh)),(1,.val .str),(2,.val (.clo 95 .unit)),(8,.val tI),(9,.val tI)],[],[],fun _=>0⟩)]
def jj:aA:=⟨[.val (.slice bh),.val .str,.val (.clo 95 .unit)],[.val tI,.val .bool],fun x=>dy x.1 x.2.1 x.2.2.1⟩
noncomputable def qZ:Cx:=⟨tpr,[(95,BY)],[]⟩
theorem q7:FB 94 jj:=fbk qZ pz none (by intro x;kernel_rfl) (cz Kh (.nil _)) Tryz.func94
def mE:aA:=⟨[.val bY,.val .str],[.val tI,.val .bool],fun x=>kH x.1 x.2.1⟩
noncomputable def Mt:Cx:=⟨tpr,[(94,jj)],[]⟩
theorem p8:FB 48 mE:=fbk Mt [] none (by intro x;kernel_rfl) (cz q7 (.nil _)) Tryz.func48
def L7:List (Nat×Ann):=[(3,⟨[(1,.val tI),(2,.ref 2 0),(6,.own 3 tI),(7,.val tI)],[(2,DK)],[],aI _⟩),
 (200003,⟨[(6,.own 3 tI)],[],[],fun _=>0⟩)]
def Aw:aA:=⟨[.val bY,.val tI],[.val (.slice tI),.val .bool],fun x=>kT x.1 x.2.1⟩
noncomputable def P4:Cx:=⟨tpr,[(48,mE),(49,ru)],[]⟩
theorem FR:FB 14 Aw:=fbk P4 L7 none (by intro x;kernel_rfl) (cz p8 (cz yX (.nil _))) Tryz.func14
def IL:List (Nat×Ann):=[(2,⟨[(1,.ref 1 0),(14,.val (.slice bh)),(15,.val tI),(16,.val tI)],[(1,DK)],[],aI _⟩),
 (9,⟨[(1,.ref 1 0),(37,.val tI),(38,.val tI)],[(1,DK)],[],aI _⟩),
 (16,⟨[(1,.ref 1 0),(52,.val tI),(53,.val tI)],[(1,DK)],[],aI _⟩),
 (200002,⟨[(1,.ref 1 0)],[(1,DK)],[],fun _=>0⟩),
 (200009,⟨[(1,.ref 1 0)],[(1,DK)],[],fun _=>0⟩),
 (200016,⟨[],[],[],fun _=>0⟩)]
def Cf:aA:=⟨[.val bY],[.val tI],fun x=>tV x.1⟩
noncomputable def Lx:Cx:=⟨tpr,[(14,Aw),(48,mE)],[]⟩
theorem LG:FB 93 Cf:=fbk Lx IL none (by intro x;kernel_rfl) (cz FR (cz p8 (.nil _))) Tryz.func93
def GY:List (Nat×Ann):=[(8,⟨[(1,.ref 1 0),(28,.val tI),(29,.val tI)],[(1,DK)],[],aI _⟩),
 (200008,⟨[(1,.ref 1 0)],[(1,DK)],[],fun _=>0⟩)]
def sA:aA:=⟨[.val bY],[.val tI],fun x=>mu x.1⟩
noncomputable def IZ:Cx:=⟨tpr,[(90,EE),(91,Nx),(92,AW),(93,Cf)],[]⟩
theorem AL:FB 47 sA:=fbk IZ GY none (by intro x;kernel_rfl) (cz K6 (cz WH (cz I6 (cz LG (.nil _))))) Tryz.func47
def Mb:List (Nat×Ann):=[(1,⟨[(0,.val (.slice (.int .u32)))],[],[],aI _⟩),
 (200001,⟨[(0,.val (.slice (.int .u32)))],[],[],fun _=>0⟩)]
def ux:aA:=⟨[.val (.slice (.int .u32))],[.val (.slice (.int .u32))],fun x=>pT x.1⟩
noncomputable def P9:Cx:=⟨tpr,[],[]⟩
theorem Ah:FB 173 ux:=fbk P9 Mb none (by intro x;kernel_rfl) (.nil _) Tryz.func173
def mZ:aA:=⟨[.val .bool,.val (.slice (.int .u32))],[.val aR],fun x=>iG x.1 x.2.1⟩
noncomputable def Vq:Cx:=⟨tpr,[(173,ux)],[]⟩
theorem pL:FB 127 mZ:=fbk Vq [] none (by intro x;kernel_rfl) (cz Ah (.nil _)) Tryz.func127
def Vc:List (Nat×Ann):=[(100003,⟨[(0,.val tI),(2,.ref 2 0),(3,.val (.int .u64))],[(2,FI)],[],fun _=>0⟩)]
def vo:aA:=⟨[.val tI],[.val aR],fun x=>rz x.1⟩
noncomputable def Yj:Cx:=⟨tpr,[(127,mZ)],[]⟩
theorem yY:FB 74 vo:=fbk Yj Vc none (by intro x;kernel_rfl) (cz pL (.nil _)) Tryz.func74
def JZ:List (Nat×Ann):=[(3,⟨[(2,.ref 2 0),(3,.ref 3 0),(4,.ref 4 0),(5,.rowR 18),(20,.val (.slice (.int .u32))),(21,.val tI),(22,.val tI)],[(2,yV),(3,yV),(4,FI)],[.rowC 18 173 (.int .u32)],aI _⟩),
 (7,⟨[(2,.ref 2 0),(3,.ref 3 0),(4,.ref 4 0),(5,.rowR 18),(6,.val tI),(7,.val (.int .u32)),(8,.val (.int .u64)),(20,.val (.slice (.int .u32))),(21,.val tI),(22,.val tI),(28,.val (.slice (.int .u32))),(29,.val tI),(30,.val tI)],[(2,yV),(3,yV),(4,FI)],[.rowC 18 173 (.int .u32)],aI _⟩),
 (200003,⟨[(2,.ref 2 0),(3,.ref 3 0),(4,.ref 4 0),(5,.rowR 18)],[(2,yV),(3,yV),(4,FI)],[.rowC 18 173 (.int .u32)],fun _=>0⟩),
 (200007,⟨[(2,.ref 2 0),(3,.ref 3 0),(4,.ref 4 0),(5,.rowR 18),(6,.val tI),(8,.val (.int .u64)),(20,.val (.slice (.int .u32))),(21,.val tI),(22,.val tI)],[(2,yV),(3,yV),(4,FI)],[.rowC 18 173 (.int .u32)],fun _=>0⟩)]
def xD:aA:=⟨[.val aR,.val aR],[.val aR],fun x=>qT x.1 x.2.1⟩
noncomputable def Mx:Cx:=⟨tpr,[(127,mZ)],[]⟩
theorem DP:FB 131 xD:=fbk Mx JZ none (by intro x;kernel_rfl) (cz pL (.nil _)) Tryz.func131
def PN:List (Nat×Ann):=[(3,⟨[(2,.ref 2 0),(3,.ref 3 0),(5,.val tI),(6,.val tI)],[(2,FI),(3,yV)],[],aI _⟩),
 (200003,⟨[(2,.ref 2 0),(3,.ref 3 0)],[(2,FI),(3,yV)],[],fun _=>0⟩)]
def JG:aA:=⟨[.val tI],[.val aR],fun x=>DB x.1⟩
noncomputable def Th:Cx:=⟨tpr,[(74,vo),(131,xD)],[]⟩
theorem Tv:FB 132 JG:=fbk Th PN none (by intro x;kernel_rfl) (cz yY (cz DP (.nil _))) Tryz.func132
def As:aA:=⟨[.val bN,.val tI],[.val aR],fun x=>jk x.1 x.2.1⟩
noncomputable def PX:Cx:=⟨tpr,[(74,vo),(131,xD),(132,JG)],[]⟩
theorem FP:FB 76 As:=fbk PX [] none (by intro x;kernel_rfl) (cz yY (cz DP (cz Tv (.nil _)))) Tryz.func76
def wA:aA:=⟨[.val bN],[.val aR],fun x=>rK x.1⟩
noncomputable def Rb:Cx:=⟨tpr,[(76,As)],[]⟩
theorem Bj:FB 53 wA:=fbk Rb [] none (by intro x;kernel_rfl) (cz FP (.nil _)) Tryz.func53
def mW:List (Nat×Ann):=[(3,⟨[(0,.val (.slice ah)),(2,.val (.clo 99 .unit)),(4,.ref 4 0),(8,.val tI),(9,.val tI),(10,.val tI)],[(4,[.val .str,.val .str,.val .str,.val tI,.val tI])],[],aI _⟩),
 (200003,⟨[(0,.val (.slice ah)),(2,.val (.clo 99 .unit)),(4,.ref 4 0),(8,.val tI),(9,.val tI)],[(4,[.val .str,.val .str,.val .str,.val tI,.val tI])],[],fun _=>0⟩)]
def gM:aA:=⟨[.val (.slice ah),.val ah,.val (.clo 99 .unit)],[.val tI,.val .bool],fun x=>cL x.1 x.2.1 x.2.2.1⟩
noncomputable def nw:Cx:=⟨tpr,[(99,gL)],[]⟩
theorem nx:FB 116 gM:=fbk nw mW none (by intro x;kernel_rfl) (cz jI (.nil _)) Tryz.func116
def uv:aA:=⟨[.val (.slice ah),.val ah],[.val aR],fun x=>kO x.1 x.2.1⟩
noncomputable def J7:Cx:=⟨tpr,[(53,wA),(74,vo),(116,gM)],[]⟩
theorem Bl:FB 67 uv:=fbk J7 [] none (by intro x;kernel_rfl) (cz Bj (cz yY (cz nx (.nil _)))) Tryz.func67
end Go.Proofs.SeatU
end
