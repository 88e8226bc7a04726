/-
  Each function that the law reaches is as its plain model says, a part. No condition.
-/
import Derived.Test.YtakjkcibbeeekaaGreatDoorYp
set_option maxRecDepth 100000
noncomputable section
namespace Go.Proofs
noncomputable abbrev tpr:=Tryz.prog
end Go.Proofs
namespace Go.Proofs.SeatU
open Go.Dn Go.Md Go.Proofs
theorem acE:Tryz.prog.follows .mixedOrders=true:=by kernel_rfl
def aaw (X:Cx) (anns:List (Nat×Ann)) (ar:Option Ty) (fn:Func) (sp:ay):Prop:=∀ x,NX X anns ar fn sp x=sp.m x
theorem NY {X:Cx} {anns:List (Nat×Ann)} {ar:Option Ty} {fn:Func} {sp:ay} (h:aaw X anns ar fn sp) (hX:cD X) (hm:X.P.follows .mixedOrders=true) {f:FuncId} (hf:X.P.funcs[f]? =some fn):gU X.P f sp:=ab4 hX hm sp anns ar hf fun x _ e=>(h x).trans e
def FB (f:Nat) (sp:ay):Prop:=gU tpr f sp/\fm tpr f
theorem fbk (X:Cx) (anns:List (Nat×Ann)) (ar:Option Ty) {fn:Func} {sp:ay} {f:Nat} (h:aaw X anns ar fn sp) (hX:cD X) (hf:tpr.funcs[f]? =some fn) (e:X.P=tpr:=by exact rfl) (h1:fn.body.isSome=true:=by exact rfl) (h2:fn.name≠ "runtime.NumGoroutine" :=by decide):FB f sp:=by
 have k:=NY h hX (by rw[e];exact acE) (by rw[e];exact hf)
 rw[e] at k
 exact⟨k,iG hf h1 h2⟩
theorem cz {f:Nat} {sp:ay} {r:List (Nat×ay)} {ks:List (Nat×BH)} (h:FB f sp) (t:cD ⟨tpr,r,ks⟩):cD ⟨tpr,(f,sp)::r,ks⟩:= .cons h.1 h.2 t
def yU:List CK:=[.val .bool,.own 229 (.int .u32)]
def mq:List CK:=[.val .bool,.val (.slice (.int .u32))]
def abP:List CK:=[.val .bool,.val .bool,.val .bool,.val .bool,.val .bool,.val .bool]
def NC:List CK:=[.val .str,.val .bool,.val (.slice cw),.val (.slice cw)]
def abQ:List CK:=[.val .str,.val .str,.val .str,.val tI,.val tI,.val (.slice jN),.val (.slice bh),.mapR 10,.own 258 aC,.own 260 eW,.val tI]
def ND:List CK:=[.val .str,.val .str,.val .str,.val tI,.val tI,.val (.slice jN)]
def CS:List CK:=[.val .str,.val .str,.val tI,.val (.slice dD),.val (.slice cV)]
def sM:List CK:=[.val .str,.val .str,.val tI,.val (.slice dD)]
def abR:List CK:=[.val tI,.val tI,.val tI,.val tI,.val tI,.val .str,.val tI,.val tI,.val .str,.val tI,.val tI,.val tI,.val tI]
def gI:ay:=⟨[.val .str],[.val .bool],fun x=>bZ x.1⟩
noncomputable def Wy:Cx:=⟨tpr,[(59,DA)],[]⟩
theorem ic:FB 18 gI:=fbk Wy [] none (by intro x;kernel_rfl) (.cons Tz Td (.nil _)) Tryz.func18
def dH:ay:=⟨[.val tI,.val tI,.val tI],[.val .bool],fun x=>b8 x.1 x.2.1 x.2.2.1⟩
noncomputable def Uu:Cx:=⟨tpr,[],[]⟩
theorem dS:FB 20 dH:=fbk Uu [] none (by intro x;kernel_rfl) (.nil _) Tryz.func20
def ou:ay:=⟨[.val tI],[.val .bool],fun x=>oc x.1⟩
noncomputable def XN:Cx:=⟨tpr,[(20,dH)],[]⟩
theorem qL:FB 19 ou:=fbk XN [] none (by intro x;kernel_rfl) (cz dS (.nil _)) Tryz.func19
def eV:ay:=⟨[.val aC],[.val tI],fun x=>cc x.1⟩
noncomputable def Jc:Cx:=⟨tpr,[(20,dH)],[]⟩
theorem fZ:FB 94 eV:=fbk Jc [] none (by intro x;kernel_rfl) (cz dS (.nil _)) Tryz.func94
def QZ:List (Nat×Ann):=[(3,⟨[(3,.val tI),(4,.val tI),(5,.val tI)],[],[],aV _⟩),
 (200003,⟨[(3,.val tI)],[],[],fun _=>0⟩)]
def Ep:ay:=⟨[.val tI],[.val tI],fun x=>EJ x.1⟩
noncomputable def Uv:Cx:=⟨tpr,[],[]⟩
theorem Kg:FB 168 Ep:=fbk Uv QZ none (by intro x;kernel_rfl) (.nil _) Tryz.func168
def Dt:ay:=⟨[.val aC,.val tI,.val tI],[.val .bool],fun x=>vl x.1 x.2.1 x.2.2.1⟩
noncomputable def SE:Cx:=⟨tpr,[(168,Ep)],[]⟩
theorem Iv:FB 115 Dt:=fbk SE [] none (by intro x;kernel_rfl) (cz Kg (.nil _)) Tryz.func115
def iD:ay:=⟨[.val aC,.val .bool],[.val tI],fun x=>cZ x.1 x.2.1⟩
noncomputable def Jf:Cx:=⟨tpr,[(94,eV),(115,Dt)],[]⟩
theorem kM:FB 60 iD:=fbk Jf [] none (by intro x;kernel_rfl) (cz fZ (cz Iv (.nil _))) Tryz.func60
def rU:ay:=⟨[.val aC],[.val tI],fun x=>lC x.1⟩
noncomputable def MX:Cx:=⟨tpr,[(94,eV),(115,Dt)],[]⟩
theorem xR:FB 61 rU:=fbk MX [] none (by intro x;kernel_rfl) (cz fZ (cz Iv (.nil _))) Tryz.func61
def K2:List (Nat×Ann):=[(300004,⟨[(17,.val .bool)],[],[],fun _=>0⟩)]
def Fu:ay:=⟨[.val bJ,.val tI],[.val tI],fun x=>yA x.1 x.2.1⟩
noncomputable def NO:Cx:=⟨tpr,[(18,gI),(20,dH),(60,iD),(61,rU)],[]⟩
theorem Ob:FB 21 Fu:=fbk NO K2 none (by intro x;kernel_rfl) (cz ic (cz dS (cz kM (cz xR (.nil _))))) Tryz.func21
def JR:List (Nat×Ann):=[(12,⟨[(1,.ref 1 0),(50,.val tI),(51,.val tI)],[(1,ND)],[],aV _⟩),
 (200012,⟨[],[],[],fun _=>0⟩)]
def kE:ay:=⟨[.val bJ],[.val tI],fun x=>jt x.1⟩
noncomputable def MW:Cx:=⟨tpr,[(18,gI),(19,ou),(20,dH),(21,Fu)],[]⟩
theorem nx:FB 4 kE:=fbk MW JR none (by intro x;kernel_rfl) (cz ic (cz qL (cz dS (cz Ob (.nil _))))) Tryz.func4
def PT:List (Nat×Ann):=[(2,⟨[(1,.ref 1 0),(8,.val (.slice jN)),(9,.val tI),(10,.val tI)],[(1,ND)],[],aV _⟩),
 (5,⟨[(1,.ref 1 0),(4,.ref 4 0),(8,.val (.slice jN)),(9,.val tI),(10,.val tI),(18,.val (.slice jN)),(19,.val tI),(20,.val tI)],[(1,ND),(4,[.val tI,.val .str,.val tI,.val tI,.val .str,.val tI,.val tI,.val tI])],[],aV _⟩),
 (200002,⟨[(1,.ref 1 0)],[(1,ND)],[],fun _=>0⟩),
 (200005,⟨[(1,.ref 1 0),(8,.val (.slice jN)),(9,.val tI),(10,.val tI)],[(1,ND)],[],fun _=>0⟩),
 (300007,⟨[(35,.val .bool)],[],[],fun _=>0⟩)]
def IV:ay:=⟨[.val bJ],[.val .bool],fun x=>Dl x.1⟩
noncomputable def SH:Cx:=⟨tpr,[],[]⟩
theorem S3:FB 5 IV:=fbk SH PT none (by intro x;kernel_rfl) (.nil _) Tryz.func5
def qC:ay:=⟨[.val .str,.val .str],[.val .bool],fun x=>sV x.1 x.2.1⟩
noncomputable def AW:Cx:=⟨tpr,[],[]⟩
theorem AZ:FB 169 qC:=fbk AW [] none (by intro x;kernel_rfl) (.nil _) Tryz.func169
def qB:ay:=⟨[.val .str,.val .str],[.val .str,.val .bool],fun x=>sU x.1 x.2.1⟩
noncomputable def AV:Cx:=⟨tpr,[(169,qC)],[]⟩
theorem AY:FB 116 qB:=fbk AV [] none (by intro x;kernel_rfl) (cz AZ (.nil _)) Tryz.func116
def Dz:ay:=⟨[.val .str,.val .str],[.val .str,.val .bool],fun x=>F9 x.1 x.2.1⟩
noncomputable def Lj:Cx:=⟨tpr,[(116,qB)],[]⟩
theorem LA:FB 62 Dz:=fbk Lj [] none (by intro x;kernel_rfl) (cz AY (.nil _)) Tryz.func62
def uH:ay:=⟨[.val .str,.val .str],[.val tI],fun x=>xg x.1 x.2.1⟩
noncomputable def DF:Cx:=⟨tpr,[(206,kQ)],[]⟩
theorem DJ:FB 170 uH:=fbk DF [] none (by intro x;kernel_rfl) (.cons A6 A4 (.nil _)) Tryz.func170
def vN:ay:=⟨[.val .str,.val .str],[.val .str,.val .str,.val .bool],fun x=>za x.1 x.2.1⟩
noncomputable def EX:Cx:=⟨tpr,[(170,uH)],[]⟩
theorem E3:FB 117 vN:=fbk EX [] none (by intro x;kernel_rfl) (cz DJ (.nil _)) Tryz.func117
def KL:ay:=⟨[.val .str,.val .str],[.val .str,.val .str,.val .bool],fun x=>QO x.1 x.2.1⟩
noncomputable def UC:Cx:=⟨tpr,[(117,vN)],[]⟩
theorem UP:FB 63 KL:=fbk UC [] none (by intro x;kernel_rfl) (cz E3 (.nil _)) Tryz.func63
def QY:List (Nat×Ann):=[(2,⟨[(0,.val .str),(1,.val (.int .u8)),(2,.val (.int .u8)),(9,.val tI),(10,.val tI)],[],[],aV _⟩),
 (200002,⟨[],[],[],fun _=>0⟩)]
def KH:ay:=⟨[.val .str,.val (.int .u8),.val (.int .u8)],[.val .bool],fun x=>Jw x.1 x.2.1 x.2.2.1⟩
noncomputable def Ut:Cx:=⟨tpr,[],[]⟩
theorem UL:FB 118 KH:=fbk Ut QY none (by intro x;kernel_rfl) (.nil _) Tryz.func118
def tU:ay:=⟨[.val .str],[.val .bool],fun x=>qP x.1⟩
noncomputable def SB:Cx:=⟨tpr,[(118,KH)],[]⟩
theorem yu:FB 65 tU:=fbk SB [] none (by intro x;kernel_rfl) (cz UL (.nil _)) Tryz.func65
def MO:List (Nat×Ann):=[(300001,⟨[(2,.val .bool)],[],[],fun _=>0⟩)]
def F3:ay:=⟨[.val .str],[.val .bool],fun x=>JM x.1⟩
noncomputable def PW:Cx:=⟨tpr,[(65,tU)],[]⟩
theorem Qb:FB 64 F3:=fbk PW MO none (by intro x;kernel_rfl) (cz yu (.nil _)) Tryz.func64
end Go.Proofs.SeatU
set_option maxRecDepth 100000
namespace Go.Proofs.SeatU
open Go.Dn Go.Md Go.Proofs
def Ns:List (Nat×Ann):=[(1,⟨[(0,.val (.slice (.int .u32)))],[],[],aV _⟩),
 (200001,⟨[(0,.val (.slice (.int .u32)))],[],[],fun _=>0⟩)]
def wR:ay:=⟨[.val (.slice (.int .u32))],[.val (.slice (.int .u32))],fun x=>sD x.1⟩
noncomputable def Rp:Cx:=⟨tpr,[],[]⟩
theorem BM:FB 154 wR:=fbk Rp Ns none (by intro x;kernel_rfl) (.nil _) Tryz.func154
def sB:ay:=⟨[.val .bool,.val (.slice (.int .u32))],[.val aA],fun x=>kX x.1 x.2.1⟩
noncomputable def WE:Cx:=⟨tpr,[(154,wR)],[]⟩
theorem xe:FB 134 sB:=fbk WE [] none (by intro x;kernel_rfl) (cz BM (.nil _)) Tryz.func134
def Wq:List (Nat×Ann):=[(100003,⟨[(0,.val tI),(2,.ref 2 0),(3,.val (.int .u64))],[(2,yU)],[],fun _=>0⟩)]
def kS:ay:=⟨[.val tI],[.val aA],fun x=>gX x.1⟩
noncomputable def Zb:Cx:=⟨tpr,[(134,sB)],[]⟩
theorem l8:FB 75 kS:=fbk Zb Wq none (by intro x;kernel_rfl) (cz xe (.nil _)) Tryz.func75
def K5:List (Nat×Ann):=[(3,⟨[(2,.ref 2 0),(3,.ref 3 0),(4,.ref 4 0),(5,.rowR 18),(20,.val (.slice (.int .u32))),(21,.val tI),(22,.val tI)],[(2,mq),(3,mq),(4,yU)],[.rowC 18 229 (.int .u32)],aV _⟩),
 (7,⟨[(2,.ref 2 0),(3,.ref 3 0),(4,.ref 4 0),(5,.rowR 18),(6,.val tI),(7,.val (.int .u32)),(8,.val (.int .u64)),(20,.val (.slice (.int .u32))),(21,.val tI),(22,.val tI),(28,.val (.slice (.int .u32))),(29,.val tI),(30,.val tI)],[(2,mq),(3,mq),(4,yU)],[.rowC 18 229 (.int .u32)],aV _⟩),
 (200003,⟨[(2,.ref 2 0),(3,.ref 3 0),(4,.ref 4 0),(5,.rowR 18)],[(2,mq),(3,mq),(4,yU)],[.rowC 18 229 (.int .u32)],fun _=>0⟩),
 (200007,⟨[(2,.ref 2 0),(3,.ref 3 0),(4,.ref 4 0),(5,.rowR 18),(6,.val tI),(8,.val (.int .u64)),(20,.val (.slice (.int .u32))),(21,.val tI),(22,.val tI)],[(2,mq),(3,mq),(4,yU)],[.rowC 18 229 (.int .u32)],fun _=>0⟩)]
def lU:ay:=⟨[.val aA,.val aA],[.val aA],fun x=>gT x.1 x.2.1⟩
noncomputable def NU:Cx:=⟨tpr,[(134,sB)],[]⟩
theorem oa:FB 119 lU:=fbk NU K5 none (by intro x;kernel_rfl) (cz xe (.nil _)) Tryz.func119
def Uh:List (Nat×Ann):=[(6,⟨[(1,.val (.slice (.int .u32))),(5,.own 229 (.int .u32)),(6,.val (.int .u64)),(20,.val (.slice (.int .u32))),(21,.val tI),(22,.val tI)],[],[],aV _⟩),
 (100002,⟨[(0,.val (.slice (.int .u32))),(1,.val (.slice (.int .u32)))],[],[],fun _=>0⟩),
 (100010,⟨[(1,.val (.slice (.int .u32))),(5,.own 229 (.int .u32)),(6,.val (.int .u64)),(20,.val (.slice (.int .u32))),(21,.val tI),(22,.val tI)],[],[],fun _=>0⟩),
 (200006,⟨[(5,.own 229 (.int .u32)),(6,.val (.int .u64))],[],[],fun _=>0⟩)]
def O2:ay:=⟨[.val (.slice (.int .u32)),.val (.slice (.int .u32))],[.row 229 (.int .u32)],fun x=>FA x.1 x.2.1⟩
noncomputable def XP:Cx:=⟨tpr,[],[]⟩
theorem X2:FB 138 O2:=fbk XP Uh none (by intro x;kernel_rfl) (.nil _) Tryz.func138
def Q8:List (Nat×Ann):=[(6,⟨[(1,.val (.slice (.int .u32))),(5,.own 229 (.int .u32)),(6,.val (.int .u64)),(20,.val (.slice (.int .u32))),(21,.val tI),(22,.val tI)],[],[],aV _⟩),
 (100002,⟨[(0,.val (.slice (.int .u32))),(1,.val (.slice (.int .u32)))],[],[],fun _=>0⟩),
 (100010,⟨[(1,.val (.slice (.int .u32))),(5,.own 229 (.int .u32)),(6,.val (.int .u64)),(20,.val (.slice (.int .u32))),(21,.val tI),(22,.val tI)],[],[],fun _=>0⟩),
 (200006,⟨[(5,.own 229 (.int .u32)),(6,.val (.int .u64))],[],[],fun _=>0⟩)]
def KN:ay:=⟨[.val (.slice (.int .u32)),.val (.slice (.int .u32))],[.val (.slice (.int .u32))],fun x=>JI x.1 x.2.1⟩
noncomputable def UE:Cx:=⟨tpr,[],[]⟩
theorem UR:FB 138 KN:=fbk UE Q8 none (by intro x;kernel_rfl) (.nil _) Tryz.func138
def Nr:List (Nat×Ann):=[(4,⟨[(0,.val (.slice (.int .u32))),(1,.val (.slice (.int .u32))),(5,.val tI)],[],[],aV _⟩),
 (200004,⟨[],[],[],fun _=>0⟩)]
def B4:ay:=⟨[.val (.slice (.int .u32)),.val (.slice (.int .u32))],[.val tI],fun x=>xD x.1 x.2.1⟩
noncomputable def Ro:Cx:=⟨tpr,[],[]⟩
theorem Hs:FB 139 B4:=fbk Ro Nr none (by intro x;kernel_rfl) (.nil _) Tryz.func139
def Sh:List (Nat×Ann):=[(4,⟨[(1,.val (.slice (.int .u32))),(5,.own 229 (.int .u32)),(6,.val (.int .u64)),(13,.val (.slice (.int .u32))),(14,.val tI),(15,.val tI)],[],[],aV _⟩),
 (100008,⟨[(1,.val (.slice (.int .u32))),(5,.own 229 (.int .u32)),(9,.val (.int .u64)),(13,.val (.slice (.int .u32))),(14,.val tI),(15,.val tI)],[],[],fun _=>0⟩),
 (200004,⟨[(5,.own 229 (.int .u32))],[],[],fun _=>0⟩)]
def FT:ay:=⟨[.val (.slice (.int .u32)),.val (.slice (.int .u32))],[.val (.slice (.int .u32))],fun x=>Au x.1 x.2.1⟩
noncomputable def WD:Cx:=⟨tpr,[(154,wR)],[]⟩
theorem Mx:FB 140 FT:=fbk WD Sh none (by intro x;kernel_rfl) (cz BM (.nil _)) Tryz.func140
def mW:ay:=⟨[.val aA,.val aA],[.val aA],fun x=>gQ x.1 x.2.1⟩
noncomputable def P9:Cx:=⟨tpr,[(134,sB),(138,KN),(139,B4),(140,FT)],[]⟩
theorem pE:FB 78 mW:=fbk P9 [] none (by intro x;kernel_rfl) (cz xe (cz UR (cz Hs (cz Mx (.nil _))))) Tryz.func78
def jR:ay:=⟨[.val aA],[.val tI],fun x=>fP x.1⟩
noncomputable def Qa:Cx:=⟨tpr,[],[]⟩
theorem mQ:FB 45 jR:=fbk Qa [] none (by intro x;kernel_rfl) (.nil _) Tryz.func45
def tY:ay:=⟨[.val aA],[.val aA],fun x=>o8 x.1⟩
noncomputable def NT:Cx:=⟨tpr,[(134,sB)],[]⟩
theorem yY:FB 96 tY:=fbk NT [] none (by intro x;kernel_rfl) (cz xe (.nil _)) Tryz.func96
def Nq:List (Nat×Ann):=[(5,⟨[(1,.val tI),(2,.ref 2 0),(6,.val (.int .u64)),(14,.val (.slice (.int .u32))),(15,.val tI),(16,.val tI)],[(2,mq)],[],aV _⟩),
 (200005,⟨[(1,.val tI),(2,.ref 2 0),(6,.val (.int .u64))],[(2,mq)],[],fun _=>0⟩)]
def B3:ay:=⟨[.val aA,.val tI],[.val tI,.val .bool],fun x=>xC x.1 x.2.1⟩
noncomputable def Rn:Cx:=⟨tpr,[],[]⟩
theorem Hr:FB 71 B3:=fbk Rn Nq none (by intro x;kernel_rfl) (.nil _) Tryz.func71
def Eo:ay:=⟨[.val aA,.val tI],[.val aC,.val tI],fun x=>ug x.1 x.2.1⟩
noncomputable def Up:Cx:=⟨tpr,[(71,B3)],[]⟩
theorem Kc:FB 99 Eo:=fbk Up [] none (by intro x;kernel_rfl) (cz Hr (.nil _)) Tryz.func99
def QW:List (Nat×Ann):=[(3,⟨[(0,.val .bool),(1,.val .str),(2,.val .str),(6,.ref 6 0),(8,.ref 8 0),(14,.val tI),(15,.val tI)],[(6,[.val tI,.val tI]),(8,mq)],[],aV _⟩),
 (200003,⟨[(0,.val .bool),(2,.val .str),(6,.ref 6 0),(8,.ref 8 0)],[(6,[.val tI,.val tI]),(8,mq)],[],fun _=>0⟩)]
def KE:ay:=⟨[.val .bool,.val .str,.val .str],[.val aC,.val tI],fun x=>Qm x.1 x.2.1 x.2.2.1⟩
noncomputable def Uq:Cx:=⟨tpr,[(45,jR),(75,kS),(78,mW),(96,tY),(99,Eo),(119,lU)],[]⟩
theorem UI:FB 66 KE:=fbk Uq QW none (by intro x;kernel_rfl) (cz mQ (cz l8 (cz pE (cz yY (cz Kc (cz oa (.nil _))))))) Tryz.func66
def KY:List (Nat×Ann):=[(300003,⟨[(40,.val .bool)],[],[],fun _=>0⟩)]
def Fo:ay:=⟨[.val .str],[.val aC,.val tI],fun x=>Io x.1⟩
noncomputable def NI:Cx:=⟨tpr,[(62,Dz),(63,KL),(64,F3),(65,tU),(66,KE)],[]⟩
theorem N6:FB 22 Fo:=fbk NI KY none (by intro x;kernel_rfl) (cz LA (cz UP (cz Qb (cz yu (cz UI (.nil _)))))) Tryz.func22
def Ug:List (Nat×Ann):=[(300002,⟨[(0,.val .bool)],[],[],fun _=>0⟩)]
def OZ:ay:=⟨[],[.val .bool],fun _=>Cy⟩
noncomputable def XO:Cx:=⟨tpr,[(22,Fo)],[]⟩
theorem XZ:FB 6 OZ:=fbk XO Ug none (by intro x;kernel_rfl) (cz N6 (.nil _)) Tryz.func6
def Q6:List (Nat×Ann):=[(3,⟨[(3,.own 88 aY),(7,.val (.slice jN)),(8,.val tI),(9,.val tI)],[],[],aV _⟩),
 (200003,⟨[(3,.own 88 aY)],[],[],fun _=>0⟩)]
def KK:ay:=⟨[.val bJ],[.val (.slice aY)],fun x=>EL x.1⟩
noncomputable def UB:Cx:=⟨tpr,[],[]⟩
theorem UO:FB 8 KK:=fbk UB Q6 none (by intro x;kernel_rfl) (.nil _) Tryz.func8
def I7:List (Nat×Ann):=[(3,⟨[(3,.mapR 8),(9,.val (.slice aY)),(10,.val tI),(11,.val tI)],[],[.mapC 8 aK .bool],aV _⟩),
 (200003,⟨[],[],[],fun _=>0⟩)]
def Du:ay:=⟨[.val (.slice aY)],[.val tI],fun x=>uS x.1⟩
noncomputable def Ld:Cx:=⟨tpr,[(18,gI),(60,iD)],[]⟩
theorem Lt:FB 23 Du:=fbk Ld I7 none (by intro x;kernel_rfl) (cz ic (cz kM (.nil _))) Tryz.func23
def MR:List (Nat×Ann):=[(300001,⟨[(3,.val .bool)],[],[],fun _=>0⟩)]
def F8:ay:=⟨[.val aY,.val (.ptr aY)],[.val .bool],fun x=>Ao x.1 x.2.1⟩
noncomputable def P7:Cx:=⟨tpr,[],[]⟩
theorem Qg:FB 68 F8:=fbk P7 MR none (by intro x;kernel_rfl) (.nil _) Tryz.func68
def Cz:List (Nat×Ann):=[(2,⟨[(0,.val (.slice aY)),(1,.val (.clo 68 (.ptr aY))),(7,.val tI),(8,.val tI)],[],[],aV _⟩),
 (200002,⟨[],[],[],fun _=>0⟩)]
def uI:ay:=⟨[.val (.slice aY),.val (.clo 68 (.ptr aY))],[.val tI],fun x=>ij x.1 x.2.1⟩
noncomputable def DG:Cx:=⟨tpr,[(68,F8)],[]⟩
theorem DK:FB 67 uI:=fbk DG Cz none (by intro x;kernel_rfl) (cz Qg (.nil _)) Tryz.func67
end Go.Proofs.SeatU
set_option maxRecDepth 100000
namespace Go.Proofs.SeatU
open Go.Dn Go.Md Go.Proofs
def Q7:List (Nat×Ann):=[(3,⟨[(2,.ref 2 0),(3,.ref 3 0),(5,.val tI),(6,.val tI)],[(2,yU),(3,mq)],[],aV _⟩),
 (200003,⟨[(2,.ref 2 0),(3,.ref 3 0)],[(2,yU),(3,mq)],[],fun _=>0⟩)]
def KM:ay:=⟨[.val tI],[.val aA],fun x=>ER x.1⟩
noncomputable def UD:Cx:=⟨tpr,[(75,kS),(119,lU)],[]⟩
theorem UQ:FB 120 KM:=fbk UD Q7 none (by intro x;kernel_rfl) (cz l8 (cz oa (.nil _))) Tryz.func120
def wN:ay:=⟨[.val aC,.val tI],[.val aA],fun x=>jB x.1 x.2.1⟩
noncomputable def Rf:Cx:=⟨tpr,[(75,kS),(119,lU),(120,KM)],[]⟩
theorem BK:FB 70 wN:=fbk Rf [] none (by intro x;kernel_rfl) (cz l8 (cz oa (cz UQ (.nil _)))) Tryz.func70
def vA:ay:=⟨[.val aC],[.val tI],fun x=>lR x.1⟩
noncomputable def J9:Cx:=⟨tpr,[(70,wN),(71,B3)],[]⟩
theorem Ch:FB 26 vA:=fbk J9 [] none (by intro x;kernel_rfl) (cz BK (cz Hr (.nil _))) Tryz.func26
def PS:List (Nat×Ann):=[(2,⟨[(1,.val (.slice aY)),(4,.val tI),(5,.own 3 tI),(11,.val (.slice aY)),(12,.val tI),(13,.val tI)],[],[],aV _⟩),
 (200002,⟨[(4,.val tI),(5,.own 3 tI)],[],[],fun _=>0⟩)]
def IU:ay:=⟨[.val (.slice aY),.val (.slice aY)],[.val tI,.row 3 tI,.val tI],fun x=>zu x.1 x.2.1⟩
noncomputable def SG:Cx:=⟨tpr,[(26,vA),(67,uI)],[]⟩
theorem SZ:FB 24 IU:=fbk SG PS none (by intro x;kernel_rfl) (cz Ch (cz DK (.nil _))) Tryz.func24
def Q5:List (Nat×Ann):=[(5,⟨[(4,.val tI),(15,.val tI),(16,.val tI)],[],[],aV _⟩),
 (200005,⟨[(4,.val tI)],[],[],fun _=>0⟩)]
def Er:ay:=⟨[.val .str],[.val tI,.val .bool],fun x=>A8 x.1⟩
noncomputable def Uz:Cx:=⟨tpr,[(65,tU)],[]⟩
theorem Kk:FB 69 Er:=fbk Uz Q5 none (by intro x;kernel_rfl) (cz yu (.nil _)) Tryz.func69
def BY:ay:=⟨[.val tI],[.val .bool],fun x=>sr x.1⟩
noncomputable def Rg:Cx:=⟨tpr,[(20,dH)],[]⟩
theorem Hf:FB 122 BY:=fbk Rg [] none (by intro x;kernel_rfl) (cz dS (.nil _)) Tryz.func122
def F4:ay:=⟨[.val tI],[.val (.slice tI)],fun x=>D3 x.1⟩
noncomputable def PX:Cx:=⟨tpr,[],[]⟩
theorem Qc:FB 176 F4:=fbk PX [] none (by intro x;kernel_rfl) (.nil _) Tryz.func176
def JU:List (Nat×Ann):=[(2,⟨[(0,.val (.slice tI)),(1,.val tI),(7,.val tI),(8,.val tI)],[],[],aV _⟩),
 (200002,⟨[],[],[],fun _=>0⟩)]
def DX:ay:=⟨[.val (.slice tI),.val tI],[.val tI],fun x=>BW x.1 x.2.1⟩
noncomputable def M5:Cx:=⟨tpr,[],[]⟩
theorem Nb:FB 215 DX:=fbk M5 JU none (by intro x;kernel_rfl) (.nil _) Tryz.func215
def uD:ay:=⟨[.val (.slice tI),.val tI],[.val .bool],fun x=>nH x.1 x.2.1⟩
noncomputable def Jl:Cx:=⟨tpr,[(215,DX)],[]⟩
theorem A2:FB 175 uD:=fbk Jl [] none (by intro x;kernel_rfl) (cz Nb (.nil _)) Tryz.func175
def PR:List (Nat×Ann):=[(3,⟨[(0,.val .str),(3,.val tI),(7,.val tI),(8,.val tI)],[],[],aV _⟩),
 (200003,⟨[(3,.val tI)],[],[],fun _=>0⟩)]
def IN:ay:=⟨[.val .str],[.val .bool],fun x=>GO x.1⟩
noncomputable def Sy:Cx:=⟨tpr,[],[]⟩
theorem SS:FB 177 IN:=fbk Sy PR none (by intro x;kernel_rfl) (.nil _) Tryz.func177
def zA:ay:=⟨[.val tI,.val .str],[.val .bool],fun x=>oA x.1 x.2.1⟩
noncomputable def NJ:Cx:=⟨tpr,[(65,tU),(126,BX),(174,IP),(175,uD),(176,F4),(177,IN)],[]⟩
theorem E2:FB 127 zA:=fbk NJ [] none (by intro x;kernel_rfl) (cz yu (.cons HE Hw (.cons Tx Tc (cz A2 (cz Qc (cz SS (.nil _))))))) Tryz.func127
def JN:List (Nat×Ann):=[(16,⟨[(0,.val tI),(1,.val .str),(49,.val tI)],[],[],aV _⟩),
 (200016,⟨[],[],[],fun _=>0⟩)]
def DS:ay:=⟨[.val tI,.val .str],[.val .str,.val tI],fun x=>vU x.1 x.2.1⟩
noncomputable def MS:Cx:=⟨tpr,[(72,yK),(122,BY),(123,HP),(124,Dq),(125,HQ),(126,BX),(127,zA)],[]⟩
theorem M6:FB 73 DS:=fbk MS JN none (by intro x;kernel_rfl) (.cons ID Ix (cz Hf (.cons RG Rx (.cons LW LH (.cons RH Ry (.cons HE Hw (cz E2 (.nil _)))))))) Tryz.func73
def AN:ay:=⟨[.val .str,.val tI],[.val .str,.val tI],fun x=>nP x.1 x.2.1⟩
noncomputable def P4:Cx:=⟨tpr,[(20,dH),(69,Er),(72,yK),(73,DS),(74,AP)],[]⟩
theorem FX:FB 27 AN:=fbk P4 [] none (by intro x;kernel_rfl) (cz dS (cz Kk (.cons ID Ix (cz M6 (.cons Qi Qh (.nil _)))))) Tryz.func27
def Cv:ay:=⟨[.val .str,.val tI,.val tI],[.val tI],fun x=>tJ x.1 x.2.1 x.2.2.1⟩
noncomputable def J7:Cx:=⟨tpr,[(27,AN),(69,Er)],[]⟩
theorem Ki:FB 25 Cv:=fbk J7 [] none (by intro x;kernel_rfl) (cz FX (cz Kk (.nil _))) Tryz.func25
def PU:List (Nat×Ann):=[(4,⟨[(2,.ref 2 0),(3,.ref 3 0),(4,.ref 4 0),(5,.ref 5 0),(6,.rowR 12),(7,.val (.slice (.int .u32))),(8,.val tI)],[(2,mq),(3,mq),(4,yU),(5,yU)],[.rowC 12 229 (.int .u32)],aV _⟩),
 (200004,⟨[(4,.ref 4 0),(5,.ref 5 0),(6,.rowR 12),(7,.val (.slice (.int .u32)))],[(4,yU),(5,yU)],[.rowC 12 229 (.int .u32)],fun _=>0⟩)]
def IW:ay:=⟨[.val aA,.val aA],[.val aA,.val aA],fun x=>zS x.1 x.2.1⟩
noncomputable def SI:Cx:=⟨tpr,[(134,sB),(138,O2),(139,B4),(140,FT),(154,wR)],[]⟩
theorem S4:FB 98 IW:=fbk SI PU none (by intro x;kernel_rfl) (cz xe (cz X2 (cz Hs (cz Mx (cz BM (.nil _)))))) Tryz.func98
def Nn:List (Nat×Ann):=[(2,⟨[(1,.val tI),(2,.ref 2 0),(4,.ref 4 0),(6,.ref 6 0)],[(2,mq),(4,[.val tI,.val tI]),(6,mq)],[],aV _⟩),
 (200002,⟨[(1,.val tI),(2,.ref 2 0),(4,.ref 4 0)],[(2,mq),(4,[.val tI,.val tI])],[],fun _=>0⟩)]
def qZ:ay:=⟨[.val aA,.val tI],[.val aC,.val tI],fun x=>mY x.1 x.2.1⟩
noncomputable def Re:Cx:=⟨tpr,[(45,jR),(75,kS),(96,tY),(98,IW),(99,Eo)],[]⟩
theorem wm:FB 52 qZ:=fbk Re Nn none (by intro x;kernel_rfl) (cz mQ (cz l8 (cz yY (cz S4 (cz Kc (.nil _)))))) Tryz.func52
def HU:ay:=⟨[.val tI],[.val aC],fun x=>Bx x.1⟩
noncomputable def Rm:Cx:=⟨tpr,[(52,qZ),(75,kS)],[]⟩
theorem Rt:FB 28 HU:=fbk Rm [] none (by intro x;kernel_rfl) (cz wm (cz l8 (.nil _))) Tryz.func28
def Q4:List (Nat×Ann):=[(4,⟨[(0,.val (.slice aY)),(1,.val (.slice aY)),(2,.val .str),(3,.val tI),(34,.rowR 34),(35,.val tI),(36,.val tI)],[],[.rowC 34 25 (.slice aY)],aV _⟩),
 (20,⟨[(2,.val .str),(3,.val tI),(14,.rowR 111952),(17,.own 97 dD),(65,.val (.slice aY)),(66,.val tI),(67,.val tI)],[],[.rowC 111952 3 tI],aV _⟩),
 (23,⟨[(2,.val .str),(3,.val tI),(14,.rowR 111952),(17,.own 97 dD),(18,.val tI),(19,.ref 19 0),(20,.val tI),(65,.val (.slice aY)),(66,.val tI),(67,.val tI)],[(19,[.val .str,.val .str,.val tI,.val tI])],[.rowC 111952 3 tI],aV _⟩),
 (200004,⟨[(0,.val (.slice aY)),(1,.val (.slice aY)),(2,.val .str),(3,.val tI)],[],[],fun _=>0⟩),
 (200020,⟨[(17,.own 97 dD)],[],[],fun _=>0⟩),
 (200023,⟨[(2,.val .str),(3,.val tI),(14,.rowR 111952),(17,.own 97 dD),(65,.val (.slice aY)),(66,.val tI),(67,.val tI)],[],[.rowC 111952 3 tI],fun _=>0⟩)]
def KJ:ay:=⟨[.val (.slice aY),.val (.slice aY),.val .str,.val tI],[.val (.slice dD),.val tI],fun x=>uB x.1 x.2.1 x.2.2.1 x.2.2.2.1⟩
noncomputable def Uy:Cx:=⟨tpr,[(23,Du),(24,IU),(25,Cv),(26,vA),(27,AN),(28,HU)],[]⟩
theorem UN:FB 7 KJ:=fbk Uy Q4 none (by intro x;kernel_rfl) (cz Lt (cz SZ (cz Ki (cz Ch (cz FX (cz Rt (.nil _))))))) Tryz.func7
def Sg:List (Nat×Ann):=[(3,⟨[(3,.own 104 cV),(7,.val (.slice dD)),(8,.val tI),(9,.val tI)],[],[],aV _⟩),
 (200003,⟨[(3,.own 104 cV)],[],[],fun _=>0⟩)]
def MK:ay:=⟨[.val jx],[.val (.slice cV)],fun x=>Dk x.1⟩
noncomputable def WC:Cx:=⟨tpr,[],[]⟩
theorem WL:FB 10 MK:=fbk WC Sg none (by intro x;kernel_rfl) (.nil _) Tryz.func10
def Fm:ay:=⟨[.val tI,.val .str],[.val .bool,.val tI],fun x=>ye x.1 x.2.1⟩
noncomputable def NH:Cx:=⟨tpr,[(122,BY),(127,zA)],[]⟩
theorem N5:FB 218 Fm:=fbk NH [] none (by intro x;kernel_rfl) (cz Hf (cz E2 (.nil _))) Tryz.func218
end Go.Proofs.SeatU
set_option maxRecDepth 100000
namespace Go.Proofs.SeatU
open Go.Dn Go.Md Go.Proofs
def AO:ay:=⟨[.val .str],[.val .bool],fun x=>qH x.1⟩
noncomputable def P6:Cx:=⟨tpr,[(218,Fm)],[]⟩
theorem FY:FB 182 AO:=fbk P6 [] none (by intro x;kernel_rfl) (cz N5 (.nil _)) Tryz.func182
def Sf:List (Nat×Ann):=[(3,⟨[(3,.val tI),(6,.val (.slice tI)),(7,.val tI),(8,.val tI)],[],[],aV _⟩),
 (200003,⟨[(3,.val tI)],[],[],fun _=>0⟩)]
def MH:ay:=⟨[.val (.slice tI)],[.val tI],fun x=>Gk x.1⟩
noncomputable def Wx:Cx:=⟨tpr,[],[]⟩
theorem WI:FB 86 MH:=fbk Wx Sf none (by intro x;kernel_rfl) (.nil _) Tryz.func86
def qu:ay:=⟨[.val cw,.val cw],[.val tI],fun x=>gh x.1 x.2.1⟩
noncomputable def Gn:Cx:=⟨tpr,[(81,lT),(86,MH)],[]⟩
theorem yw:FB 219 qu:=fbk Gn [] none (by intro x;kernel_rfl) (.cons sX sQ (cz WI (.nil _))) Tryz.func219
def Gg:List (Nat×Ann):=[(4,⟨[(0,.val (.slice cw)),(9,.val (.slice cw)),(10,.val tI),(11,.val tI)],[],[],aV _⟩),
 (200004,⟨[],[],[],fun _=>0⟩)]
def sk:ay:=⟨[.val (.slice cw)],[.val tI],fun x=>jJ x.1⟩
noncomputable def Ii:Cx:=⟨tpr,[(18,gI),(60,iD),(219,qu)],[]⟩
theorem Aw:FB 183 sk:=fbk Ii Gg none (by intro x;kernel_rfl) (cz ic (cz kM (cz yw (.nil _)))) Tryz.func183
def Cw:ay:=⟨[.val (.slice dD),.val tI],[.val tI],fun x=>tN x.1 x.2.1⟩
noncomputable def J8:Cx:=⟨tpr,[(60,iD),(182,AO),(183,sk)],[]⟩
theorem Kj:FB 135 Cw:=fbk J8 [] none (by intro x;kernel_rfl) (cz kM (cz FY (cz Aw (.nil _)))) Tryz.func135
def Dx:ay:=⟨[.val dD,.val .str],[.val tI],fun x=>AM x.1 x.2.1⟩
noncomputable def Lh:Cx:=⟨tpr,[(81,lT)],[]⟩
theorem Lw:FB 143 Dx:=fbk Lh [] none (by intro x;kernel_rfl) (.cons sX sQ (.nil _)) Tryz.func143
def se:List (Nat×Ann):=[(3,⟨[(0,.val (.slice dD)),(1,.val .str),(2,.val (.clo 143 .unit)),(8,.val tI),(9,.val tI),(10,.val tI)],[],[],aV _⟩),
 (200003,⟨[(0,.val (.slice dD)),(1,.val .str),(2,.val (.clo 143 .unit)),(8,.val tI),(9,.val tI)],[],[],fun _=>0⟩)]
def kR:ay:=⟨[.val (.slice dD),.val .str,.val (.clo 143 .unit)],[.val tI,.val .bool],fun x=>dZ x.1 x.2.1 x.2.2.1⟩
noncomputable def um:Cx:=⟨tpr,[(143,Dx)],[]⟩
theorem uo:FB 142 kR:=fbk um se none (by intro x;kernel_rfl) (cz Lw (.nil _)) Tryz.func142
def tW:ay:=⟨[.val jx,.val .str],[.val tI,.val .bool],fun x=>oU x.1 x.2.1⟩
noncomputable def NS:Cx:=⟨tpr,[(142,kR)],[]⟩
theorem yX:FB 82 tW:=fbk NS [] none (by intro x;kernel_rfl) (cz uo (.nil _)) Tryz.func82
def Np:List (Nat×Ann):=[(3,⟨[(1,.val tI),(2,.ref 2 0),(6,.own 3 tI),(7,.val tI)],[(2,sM)],[],aV _⟩),
 (200003,⟨[(6,.own 3 tI)],[],[],fun _=>0⟩)]
def HT:ay:=⟨[.val jx,.val tI],[.val (.slice tI),.val .bool],fun x=>xy x.1 x.2.1⟩
noncomputable def Rl:Cx:=⟨tpr,[(82,tW),(175,uD)],[]⟩
theorem Rs:FB 184 HT:=fbk Rl Np none (by intro x;kernel_rfl) (cz yX (cz A2 (.nil _))) Tryz.func184
def JS:List (Nat×Ann):=[(2,⟨[(1,.ref 1 0),(14,.val (.slice dD)),(15,.val tI),(16,.val tI)],[(1,sM)],[],aV _⟩),
 (9,⟨[(1,.ref 1 0),(37,.val tI),(38,.val tI)],[(1,sM)],[],aV _⟩),
 (16,⟨[(1,.ref 1 0),(52,.val tI),(53,.val tI)],[(1,sM)],[],aV _⟩),
 (200002,⟨[(1,.ref 1 0)],[(1,sM)],[],fun _=>0⟩),
 (200009,⟨[(1,.ref 1 0)],[(1,sM)],[],fun _=>0⟩),
 (200016,⟨[],[],[],fun _=>0⟩)]
def DV:ay:=⟨[.val jx],[.val tI],fun x=>wI x.1⟩
noncomputable def M3:Cx:=⟨tpr,[(82,tW),(184,HT)],[]⟩
theorem M9:FB 136 DV:=fbk M3 JS none (by intro x;kernel_rfl) (cz yX (cz Rs (.nil _))) Tryz.func136
def Ig:List (Nat×Ann):=[(8,⟨[(1,.ref 1 0),(28,.val tI),(29,.val tI)],[(1,sM)],[],aV _⟩),
 (200008,⟨[(1,.ref 1 0)],[(1,sM)],[],fun _=>0⟩)]
def vz:ay:=⟨[.val jx],[.val tI],fun x=>oo x.1⟩
noncomputable def J5:Cx:=⟨tpr,[(18,gI),(19,ou),(135,Cw),(136,DV)],[]⟩
theorem Cg:FB 76 vz:=fbk J5 Ig none (by intro x;kernel_rfl) (cz ic (cz qL (cz Kj (cz M9 (.nil _))))) Tryz.func76
def mM:ay:=⟨[.val aC],[.val aA],fun x=>ew x.1⟩
noncomputable def Sx:Cx:=⟨tpr,[(70,wN)],[]⟩
theorem oF:FB 40 mM:=fbk Sx [] none (by intro x;kernel_rfl) (cz BK (.nil _)) Tryz.func40
def o9:List (Nat×Ann):=[(3,⟨[(0,.val (.slice cw)),(2,.val (.clo 219 .unit)),(4,.ref 4 0),(8,.val tI),(9,.val tI),(10,.val tI)],[(4,[.val .str,.val .str,.val .str,.val tI,.val tI])],[],aV _⟩),
 (200003,⟨[(0,.val (.slice cw)),(2,.val (.clo 219 .unit)),(4,.ref 4 0),(8,.val tI),(9,.val tI)],[(4,[.val .str,.val .str,.val .str,.val tI,.val tI])],[],fun _=>0⟩)]
def iY:ay:=⟨[.val (.slice cw),.val cw,.val (.clo 219 .unit)],[.val tI,.val .bool],fun x=>jE x.1 x.2.1 x.2.2.1⟩
noncomputable def pU:Cx:=⟨tpr,[(219,qu)],[]⟩
theorem pW:FB 220 iY:=fbk pU o9 none (by intro x;kernel_rfl) (cz yw (.nil _)) Tryz.func220
def Dy:ay:=⟨[.val (.slice cw),.val cw],[.val aA],fun x=>F2 x.1 x.2.1⟩
noncomputable def Li:Cx:=⟨tpr,[(40,mM),(75,kS),(220,iY)],[]⟩
theorem Lx:FB 185 Dy:=fbk Li [] none (by intro x;kernel_rfl) (cz oF (cz l8 (cz pW (.nil _)))) Tryz.func185
def uV:ay:=⟨[.val aA,.val aA],[.val aA],fun x=>lV x.1 x.2.1⟩
noncomputable def P8:Cx:=⟨tpr,[(78,mW),(96,tY)],[]⟩
theorem AK:FB 44 uV:=fbk P8 [] none (by intro x;kernel_rfl) (cz pE (cz yY (.nil _))) Tryz.func44
def qv:ay:=⟨[.val aA,.val aA],[.val tI],fun x=>jS x.1 x.2.1⟩
noncomputable def Ll:Cx:=⟨tpr,[(44,uV),(45,jR)],[]⟩
theorem wo:FB 43 qv:=fbk Ll [] none (by intro x;kernel_rfl) (cz AK (cz mQ (.nil _))) Tryz.func43
def JT:List (Nat×Ann):=[(9,⟨[(5,.ref 5 0),(51,.rowR 51),(52,.val tI),(53,.val tI)],[(5,NC)],[.rowC 51 95 (.slice cw)],aV _⟩),
 (16,⟨[(5,.ref 5 0),(64,.val (.slice cw)),(65,.val tI),(66,.val tI)],[(5,NC)],[],aV _⟩),
 (200009,⟨[(5,.ref 5 0)],[(5,NC)],[],fun _=>0⟩),
 (200016,⟨[],[],[],fun _=>0⟩),
 (300004,⟨[(20,.val .bool)],[],[],fun _=>0⟩),
 (300006,⟨[(34,.val .bool)],[],[],fun _=>0⟩)]
def DW:ay:=⟨[.val (.slice cV),.val tI],[.val tI],fun x=>wK x.1 x.2.1⟩
noncomputable def M4:Cx:=⟨tpr,[(40,mM),(43,qv),(182,AO),(183,sk),(185,Dy)],[]⟩
theorem Na:FB 137 DW:=fbk M4 JT none (by intro x;kernel_rfl) (cz oF (cz wo (cz FY (cz Aw (cz Lx (.nil _)))))) Tryz.func137
def I6:List (Nat×Ann):=[(4,⟨[(0,.val (.slice cV)),(9,.val tI),(10,.val tI)],[],[],aV _⟩),
 (200004,⟨[],[],[],fun _=>0⟩)]
def wQ:ay:=⟨[.val (.slice cV)],[.val tI],fun x=>pH x.1⟩
noncomputable def Lc:Cx:=⟨tpr,[(137,DW)],[]⟩
theorem C3:FB 77 wQ:=fbk Lc I6 none (by intro x;kernel_rfl) (cz Na (.nil _)) Tryz.func77
def DU:ay:=⟨[.val jx,.val (.slice cV)],[.box [.val jx,.val (.slice cV)],.val tI],fun x=>wE x.1 x.2.1⟩
noncomputable def MZ:Cx:=⟨tpr,[(76,vz),(77,wQ)],[]⟩
theorem M8:FB 29 DU:=fbk MZ [] none (by intro x;kernel_rfl) (cz Cg (cz C3 (.nil _))) Tryz.func29
def Cu:ay:=⟨[.val jx,.val (.slice cV)],[.val .hnd,.val tI],fun x=>tH x.1 x.2.1⟩
noncomputable def J6:Cx:=⟨tpr,[(76,vz),(77,wQ)],[]⟩
theorem Kh:FB 29 Cu:=fbk J6 [] none (by intro x;kernel_rfl) (cz Cg (cz C3 (.nil _))) Tryz.func29
end Go.Proofs.SeatU
set_option maxRecDepth 100000
namespace Go.Proofs.SeatU
open Go.Dn Go.Md Go.Proofs
def zH:ay:=⟨[.map aK aA,.val aK,.val aC],[],fun x=>jc x.1 x.2.1 x.2.2.1⟩
noncomputable def G6:Cx:=⟨tpr,[(70,wN),(75,kS),(78,mW)],[]⟩
theorem Hp:FB 30 zH:=fbk G6 [] none (by intro x;kernel_rfl) (cz BK (cz l8 (cz pE (.nil _)))) Tryz.func30
def IT:ay:=⟨[.val aC],[.val aC],fun x=>OR x.1⟩
noncomputable def SF:Cx:=⟨tpr,[],[]⟩
theorem SY:FB 31 IT:=fbk SF [] none (by intro x;kernel_rfl) (.nil _) Tryz.func31
def zF:ay:=⟨[.val cV,.val .str],[.val tI],fun x=>vq x.1 x.2.1⟩
noncomputable def GZ:Cx:=⟨tpr,[(81,lT)],[]⟩
theorem Hl:FB 80 zF:=fbk GZ [] none (by intro x;kernel_rfl) (.cons sX sQ (.nil _)) Tryz.func80
def uj:List (Nat×Ann):=[(3,⟨[(0,.val (.slice cV)),(1,.val .str),(2,.val (.clo 80 .unit)),(8,.val tI),(9,.val tI),(10,.val tI)],[],[],aV _⟩),
 (200003,⟨[(0,.val (.slice cV)),(1,.val .str),(2,.val (.clo 80 .unit)),(8,.val tI),(9,.val tI)],[],[],fun _=>0⟩)]
def gP:ay:=⟨[.val (.slice cV),.val .str,.val (.clo 80 .unit)],[.val tI,.val .bool],fun x=>dw x.1 x.2.1 x.2.2.1⟩
noncomputable def ve:Cx:=⟨tpr,[(80,zF)],[]⟩
theorem lH:FB 79 gP:=fbk ve uj none (by intro x;kernel_rfl) (cz Hl (.nil _)) Tryz.func79
def Bj:ay:=⟨[.val (.ptr HZ),.val .str],[.val cV,.val .bool],fun x=>kD x.1 x.2.1⟩
noncomputable def Jk:Cx:=⟨tpr,[(79,gP)],[]⟩
theorem Js:FB 32 Bj:=fbk Jk [] none (by intro x;kernel_rfl) (cz lH (.nil _)) Tryz.func32
def zG:ay:=⟨[.box [.val jx,.val (.slice cV)],.val .str],[.val cV,.val .bool],fun x=>jb x.1 x.2.1⟩
noncomputable def G5:Cx:=⟨tpr,[(79,gP)],[]⟩
theorem Ho:FB 32 zG:=fbk G5 [] none (by intro x;kernel_rfl) (cz lH (.nil _)) Tryz.func32
def eU:List PM:=[.val (.ptr HZ),.val tI]
def iC:List RM:=[.val .bool]
noncomputable def Av:List (Nat×ay):=[(32,Bj),(82,tW)]
def Bi:ay:=⟨eU,iC,fun x=>nG x.1 x.2.1⟩
theorem Ij:∀ (self:eL eU->Option (dc eU iC)) (x:eL eU),NX ⟨tpr,(33,⟨eU,iC,self⟩)::Av,[]⟩ [] none Tryz.f33 ⟨eU,iC,fun x=>cR self x.1 x.2.1⟩ x=cR self x.1 x.2.1:=by intro self x;kernel_rfl
theorem A5:fm tpr 33:=iG Tryz.func33 rfl (by decide)
theorem JB:gU tpr 33 Bi:=QA (ps:=eU) (rs:=iC) (m:=fun n x=>zx (fun self x=>cR self x.1 x.2.1) n x) (LG (P:=Tryz.prog) (specs:=Av) (ps:=eU) (rs:=iC) (cz Js (cz yX (.nil _))) (by kernel_rfl) (fun self x=>cR self x.1 x.2.1) [] none (by kernel_rfl) A5 Ij) (fun x=>qV x.1 x.2.1)
def Es:ay:=⟨[.val aA],[.val aC,.val tI],fun x=>xK x.1⟩
noncomputable def UA:Cx:=⟨tpr,[(52,qZ)],[]⟩
theorem Kl:FB 46 Es:=fbk UA [] none (by intro x;kernel_rfl) (cz wm (.nil _)) Tryz.func46
def MQ:List (Nat×Ann):=[(4,⟨[(0,.mapR 10250000),(4,.own 88 aY),(13,.rowR 12),(14,.val tI),(15,.val tI)],[],[.rowC 12 107 aK,.mapC 10250000 aK aA],aV _⟩),
 (200004,⟨[(4,.own 88 aY)],[],[.mapC 10250000 aK aA],fun _=>0⟩)]
def F7:ay:=⟨[.map aK aA],[.row 88 aY,.val tI],fun x=>An x.1⟩
noncomputable def P5:Cx:=⟨tpr,[(46,Es)],[(83,acg),(84,ach)]⟩
theorem Qf:FB 34 F7:=fbk P5 MQ none (by intro x;kernel_rfl) (.Su afP afL (.Su afQ afM (cz Kl (.nil _)))) Tryz.func34
def K4:List (Nat×Ann):=[(6,⟨[(2,.ref 2 0),(6,.ref 24 0),(8,.mapR 30),(31,.val (.slice cV)),(32,.val tI),(33,.val tI)],[(2,sM),(24,CS)],[.mapC 30 aK aA],aV _⟩),
 (9,⟨[(2,.ref 2 0),(6,.ref 24 0),(8,.mapR 30),(10,.ref 10 0),(31,.val (.slice cV)),(32,.val tI),(33,.val tI),(38,.val (.slice cw)),(39,.val tI),(40,.val tI)],[(2,sM),(10,NC),(24,CS)],[.mapC 30 aK aA],aV _⟩),
 (14,⟨[(2,.ref 2 0),(6,.ref 24 0),(8,.mapR 30),(31,.val (.slice cV)),(32,.val tI),(33,.val tI),(55,.val (.slice cw)),(56,.val tI),(57,.val tI)],[(2,sM),(24,CS)],[.mapC 30 aK aA],aV _⟩),
 (20,⟨[(6,.ref 24 0),(8,.mapR 30),(74,.val (.slice dD)),(75,.val tI),(76,.val tI)],[(24,CS)],[.mapC 30 aK aA],aV _⟩),
 (25,⟨[(6,.ref 24 0),(8,.mapR 30),(74,.val (.slice dD)),(75,.val tI),(76,.val tI),(101,.val (.slice cw)),(102,.val tI),(103,.val tI)],[(24,CS)],[.mapC 30 aK aA],aV _⟩),
 (200006,⟨[(2,.ref 2 0),(6,.ref 24 0),(8,.mapR 30)],[(2,sM),(24,CS)],[.mapC 30 aK aA],fun _=>0⟩),
 (200009,⟨[(2,.ref 2 0),(6,.ref 24 0),(8,.mapR 30),(10,.ref 10 0),(31,.val (.slice cV)),(32,.val tI),(33,.val tI)],[(2,sM),(10,NC),(24,CS)],[.mapC 30 aK aA],fun _=>0⟩),
 (200014,⟨[(2,.ref 2 0),(6,.ref 24 0),(8,.mapR 30),(31,.val (.slice cV)),(32,.val tI),(33,.val tI)],[(2,sM),(24,CS)],[.mapC 30 aK aA],fun _=>0⟩),
 (200020,⟨[(8,.mapR 30)],[],[.mapC 30 aK aA],fun _=>0⟩),
 (200025,⟨[(6,.ref 24 0),(8,.mapR 30),(74,.val (.slice dD)),(75,.val tI),(76,.val tI)],[(24,CS)],[.mapC 30 aK aA],fun _=>0⟩),
 (300023,⟨[(99,.val .bool)],[],[],fun _=>0⟩)]
def Fw:ay:=⟨[.val jx,.val (.slice cV)],[.val (.slice aY),.val tI],fun x=>tC x.1 x.2.1⟩
noncomputable def NR:Cx:=⟨tpr,[(29,Cu),(29,DU),(30,zH),(31,IT),(32,zG),(33,Bi),(34,F7)],[]⟩
theorem Od:FB 9 Fw:=fbk NR K4 none (by intro x;kernel_rfl) (cz Kh (cz M8 (cz Hp (cz SY (cz Ho (.cons JB A5 (cz Qf (.nil _)))))))) Tryz.func9
def zD:ay:=⟨[.val tI],[.val .bool],fun x=>s5 x.1⟩
noncomputable def NN:Cx:=⟨tpr,[],[]⟩
theorem E4:FB 196 zD:=fbk NN [] none (by intro x;kernel_rfl) (.nil _) Tryz.func196
def IS:ay:=⟨[.val tI],[.val YV],fun x=>C9 x.1⟩
noncomputable def SD:Cx:=⟨tpr,[],[]⟩
theorem SX:FB 241 IS:=fbk SD [] none (by intro x;kernel_rfl) (.nil _) Tryz.func241
def K3:List (Nat×Ann):=[(100003,⟨[(1,.ref 1 0),(3,.ref 3 0)],[(1,abR),(3,abP)],[],fun _=>0⟩),
 (100007,⟨[(1,.ref 1 0),(3,.ref 3 0)],[(1,abR),(3,abP)],[],fun _=>0⟩),
 (300011,⟨[(30,.val .bool)],[],[],fun _=>0⟩),
 (300013,⟨[(39,.val .bool)],[],[],fun _=>0⟩),
 (300015,⟨[(58,.val .bool)],[],[],fun _=>0⟩),
 (300017,⟨[(66,.val .bool)],[],[],fun _=>0⟩)]
def Fv:ay:=⟨[.val bh],[.val tI],fun x=>yB x.1⟩
noncomputable def NQ:Cx:=⟨tpr,[(18,gI),(19,ou),(20,dH),(60,iD),(61,rU),(241,IS)],[]⟩
theorem Oc:FB 202 Fv:=fbk NQ K3 none (by intro x;kernel_rfl) (cz ic (cz qL (cz dS (cz kM (cz xR (cz SX (.nil _))))))) Tryz.func202
def Fs:ay:=⟨[.val bh],[.val tI],fun x=>yz x.1⟩
noncomputable def NM:Cx:=⟨tpr,[(19,ou),(20,dH),(196,zD),(202,Fv)],[]⟩
theorem Oa:FB 157 Fs:=fbk NM [] none (by intro x;kernel_rfl) (cz qL (cz dS (cz E4 (cz Oc (.nil _))))) Tryz.func157
def Ic:List (Nat×Ann):=[(2,⟨[(22,.rowR 22),(23,.val tI),(24,.val tI)],[],[.rowC 22 3 tI],aV _⟩),
 (200002,⟨[],[],[],fun _=>0⟩)]
def Cs:ay:=⟨[.val bh,.val bh],[.val tI],fun x=>om x.1 x.2.1⟩
noncomputable def J2:Cx:=⟨tpr,[],[]⟩
theorem Ke:FB 158 Cs:=fbk J2 Ic none (by intro x;kernel_rfl) (.nil _) Tryz.func158
def JQ:List (Nat×Ann):=[(5,⟨[(0,.val (.slice bh)),(3,.ref 3 0),(11,.val (.slice bh)),(12,.val tI),(13,.val tI)],[(3,[.val tI,.val tI,.val tI])],[],aV _⟩),
 (200005,⟨[],[],[],fun _=>0⟩),
 (300010,⟨[(34,.val .bool)],[],[],fun _=>0⟩)]
def rT:ay:=⟨[.val (.slice bh)],[.val tI],fun x=>nM x.1⟩
noncomputable def MV:Cx:=⟨tpr,[(157,Fs),(158,Cs)],[]⟩
theorem xQ:FB 102 rT:=fbk MV JQ none (by intro x;kernel_rfl) (cz Oa (cz Ke (.nil _))) Tryz.func102
def BZ:ay:=⟨[.val bJ,.val (.slice bh)],[.val tI],fun x=>xk x.1 x.2.1⟩
noncomputable def Rj:Cx:=⟨tpr,[(4,kE),(102,rT)],[]⟩
theorem Hh:FB 87 BZ:=fbk Rj [] none (by intro x;kernel_rfl) (cz nx (cz xQ (.nil _))) Tryz.func87
def qI:ay:=⟨[.val aC],[.val tI],fun x=>kO x.1⟩
noncomputable def Uw:Cx:=⟨tpr,[(168,Ep)],[]⟩
theorem vf:FB 147 qI:=fbk Uw [] none (by intro x;kernel_rfl) (cz Kg (.nil _)) Tryz.func147
def I5:List (Nat×Ann):=[(3,⟨[(5,.ref 12 0),(14,.val (.slice jN)),(15,.val tI),(16,.val tI)],[(12,abQ)],[.mapC 10 tI .hnd,.ar bP],aV _⟩),
 (200003,⟨[(5,.ref 12 0)],[(12,abQ)],[.mapC 10 tI .hnd,.ar bP],fun _=>0⟩)]
def wP:ay:=⟨[.val bJ,.val (.slice bh),.ar bP],[.box [.val bJ,.val (.slice bh),.map tI .hnd,.row 258 aC,.row 260 eW,.val tI]],fun x=>mT x.1 x.2.1 x.2.2.1⟩
noncomputable def Lb:Cx:=⟨tpr,[(147,qI)],[]⟩
theorem C2:FB 88 wP:=fbk Lb I5 none (by intro x;kernel_rfl) (cz vf (.nil _)) Tryz.func88
end Go.Proofs.SeatU
end
