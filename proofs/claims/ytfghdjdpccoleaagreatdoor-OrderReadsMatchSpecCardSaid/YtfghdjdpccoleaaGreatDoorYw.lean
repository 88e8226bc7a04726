/-
  Each function that the law reaches is as its plain model says. No condition.
-/
import Derived.Test.YtfghdjdpccoleaaGreatDoorYv
set_option maxRecDepth 100000
noncomputable section
namespace Go.Proofs
abbrev tpr:=Tryz.prog
end Go.Proofs
namespace Go.Proofs.SeatU
open Go.Dn Go.Md Go.Proofs
theorem Ld:Tryz.prog.follows .mixedOrders=true:=by kernel_rfl
def JE (X:Cx) (anns:List (Nat×Ann)) (ar:Option Ty) (fn:Func) (sp:an):Prop:=∀ x,B3 X anns ar fn sp x=sp.m x
theorem CY {X:Cx} {anns:List (Nat×Ann)} {ar:Option Ty} {fn:Func} {sp:an} (h:JE X anns ar fn sp) (hX:bR X) (hm:X.P.follows .mixedOrders=true) {f:FuncId} (hf:X.P.funcs[f]? =some fn):jr X.P f sp:=Ho hX hm sp anns ar hf fun x _ e=>(h x).trans e
def FB (f:Nat) (sp:an):Prop:=jr tpr f sp/\gY tpr f
theorem fbk (X:Cx) (anns:List (Nat×Ann)) (ar:Option Ty) {fn:Func} {sp:an} {f:Nat} (h:JE X anns ar fn sp) (hX:bR X) (hf:tpr.funcs[f]? =some fn) (e:X.P=tpr:=by exact rfl) (h1:fn.body.isSome=true:=by exact rfl) (h2:fn.name≠ "runtime.NumGoroutine" :=by decide):FB f sp:=by
 have k:=CY h hX (by rw[e];exact Ld) (by rw[e];exact hf)
 rw[e] at k
 exact⟨k,ov hf h1 h2⟩
theorem cz {f:Nat} {sp:an} {r:List (Nat×an)} {ks:List (Nat×yH)} (h:FB f sp) (t:bR ⟨tpr,r,ks⟩):bR ⟨tpr,(f,sp)::r,ks⟩:= .cons h.1 h.2 t
def yU:List CK:=[.val .bool,.own 106 (.int .u32)]
def kT:List CK:=[.val .bool,.val (.slice (.int .u32))]
def gX:an:=⟨[.val .str,.val .str],[.val .bool],fun x=>fF x.1 x.2.1⟩
noncomputable def nx:Cx:=⟨tpr,[],[]⟩
theorem nE:FB 53 gX:=fbk nx [] none (by intro x;kernel_rfl) (.nil _) Tryz.func53
def gV:an:=⟨[.val .str,.val .str],[.val .str,.val .bool],fun x=>fD x.1 x.2.1⟩
noncomputable def nv:Cx:=⟨tpr,[(53,gX)],[]⟩
theorem nC:FB 38 gV:=fbk nv [] none (by intro x;kernel_rfl) (cz nE (.nil _)) Tryz.func38
def qd:an:=⟨[.val .str,.val .str],[.val .str,.val .bool],fun x=>jw x.1 x.2.1⟩
noncomputable def xe:Cx:=⟨tpr,[(38,gV)],[]⟩
theorem xp:FB 14 qd:=fbk xe [] none (by intro x;kernel_rfl) (cz nC (.nil _)) Tryz.func14
def Ah:an:=⟨[.val .str],[.val (.slice .str),.val .bool],fun x=>u0 x.1⟩
noncomputable def GO:Cx:=⟨tpr,[(14,qd),(15,kM)],[]⟩
theorem G7:FB 8 Ah:=fbk GO [] none (by intro x;kernel_rfl) (cz xp (.cons oA ox (.nil _))) Tryz.func8
def D2:List (Nat×Ann):=[(3,⟨[(4,.rowR 27920),(9,.rowR 27920),(10,.val tI),(11,.val tI)],[],[.rowC 27920 9 .str],bA _⟩),
 (200003,⟨[(4,.rowR 27920)],[],[.rowC 27920 9 .str],fun _=>0⟩)]
def Ai:an:=⟨[.val .str],[.val (.slice .str),.val .bool],fun x=>u5 x.1⟩
noncomputable def GP:Cx:=⟨tpr,[(15,kM)],[]⟩
theorem G8:FB 16 Ai:=fbk GP D2 none (by intro x;kernel_rfl) (.cons oA ox (.nil _)) Tryz.func16
def fX:an:=⟨[.box [.val (.slice .str),.val .bool]],[.val .str],fun x=>dV x.1⟩
noncomputable def yy:Cx:=⟨tpr,[],[]⟩
theorem iE:FB 22 fX:=fbk yy [] none (by intro x;kernel_rfl) (.nil _) Tryz.func22
def o3:an:=⟨[.box [.val (.slice .str),.val .bool]],[.val tI],fun x=>dn x.1⟩
noncomputable def wq:Cx:=⟨tpr,[(22,fX),(40,yl)],[]⟩
theorem wC:FB 17 o3:=fbk wq [] none (by intro x;kernel_rfl) (cz iE (.cons F5 F0 (.nil _))) Tryz.func17
def ux:an:=⟨[],[.val (.slice .str)],fun _=>fO⟩
noncomputable def BX:Cx:=⟨tpr,[],[]⟩
theorem B7:FB 19 ux:=fbk BX [] none (by intro x;kernel_rfl) (.nil _) Tryz.func19
def tL:List (Nat×Ann):=[(2,⟨[(0,.val (.slice .str)),(1,.val .str),(7,.val tI),(8,.val tI)],[],[],bA _⟩),
 (200002,⟨[],[],[],fun _=>0⟩)]
def gk:an:=⟨[.val (.slice .str),.val .str],[.val tI],fun x=>dM x.1 x.2.1⟩
noncomputable def vq:Cx:=⟨tpr,[],[]⟩
theorem jj:FB 29 gk:=fbk vq tL none (by intro x;kernel_rfl) (.nil _) Tryz.func29
def qb:an:=⟨[.box [.val (.slice .str),.val .bool],.val (.slice .str)],[.val tI],fun x=>gI x.1 x.2.1⟩
noncomputable def xb:Cx:=⟨tpr,[(22,fX),(29,gk)],[]⟩
theorem xo:FB 18 qb:=fbk xb [] none (by intro x;kernel_rfl) (cz iE (cz jj (.nil _))) Tryz.func18
def sj:an:=⟨[],[.val (.slice .str)],fun _=>eF⟩
noncomputable def zb:Cx:=⟨tpr,[],[]⟩
theorem zw:FB 20 sj:=fbk zb [] none (by intro x;kernel_rfl) (.nil _) Tryz.func20
def p9:an:=⟨[.val tI],[.val HX],fun x=>bq x.1⟩
noncomputable def CQ:Cx:=⟨tpr,[],[]⟩
theorem uT:FB 21 p9:=fbk CQ [] none (by intro x;kernel_rfl) (.nil _) Tryz.func21
def gW:an:=⟨[.val .str,.val .str],[.val .bool],fun x=>fE x.1 x.2.1⟩
noncomputable def nw:Cx:=⟨tpr,[],[]⟩
theorem nD:FB 109 gW:=fbk nw [] none (by intro x;kernel_rfl) (.nil _) Tryz.func109
def gU:an:=⟨[.val .str,.val .str],[.val .str,.val .bool],fun x=>fC x.1 x.2.1⟩
noncomputable def nu:Cx:=⟨tpr,[(109,gW)],[]⟩
theorem nB:FB 83 gU:=fbk nu [] none (by intro x;kernel_rfl) (cz nD (.nil _)) Tryz.func83
def kL:an:=⟨[.val .str,.val .str],[.val .str,.val .bool],fun x=>gL x.1 x.2.1⟩
noncomputable def xd:Cx:=⟨tpr,[(83,gU)],[]⟩
theorem pz:FB 59 kL:=fbk xd [] none (by intro x;kernel_rfl) (cz nB (.nil _)) Tryz.func59
def jq:an:=⟨[.val .str,.val .str],[.val tI],fun x=>eS x.1 x.2.1⟩
noncomputable def qk:Cx:=⟨tpr,[(65,eP)],[]⟩
theorem qm:FB 46 jq:=fbk qk [] none (by intro x;kernel_rfl) (.cons nG nF (.nil _)) Tryz.func46
def ki:an:=⟨[.val .str,.val .str],[.val .str,.val .str,.val .bool],fun x=>ic x.1 x.2.1⟩
noncomputable def rK:Cx:=⟨tpr,[(46,jq)],[]⟩
theorem rM:FB 26 ki:=fbk rK [] none (by intro x;kernel_rfl) (cz qm (.nil _)) Tryz.func26
def nh:an:=⟨[.val .str,.val .str],[.val .str,.val .str,.val .bool],fun x=>lD x.1 x.2.1⟩
noncomputable def Ei:Cx:=⟨tpr,[(26,ki)],[]⟩
theorem qA:FB 11 nh:=fbk Ei [] none (by intro x;kernel_rfl) (cz rM (.nil _)) Tryz.func11
def yq:List (Nat×Ann):=[(300001,⟨[(2,.val .bool)],[],[],fun _=>0⟩)]
def sP:an:=⟨[.val .str],[.val .bool],fun x=>mI x.1⟩
noncomputable def A1:Cx:=⟨tpr,[(57,gF)],[]⟩
theorem A7:FB 60 sP:=fbk A1 yq none (by intro x;kernel_rfl) (.cons pN uV (.nil _)) Tryz.func60
def yN:List (Nat×Ann):=[(1,⟨[(0,.val (.slice (.int .u32)))],[],[],bA _⟩),
 (200001,⟨[(0,.val (.slice (.int .u32)))],[],[],fun _=>0⟩)]
def oH:an:=⟨[.val (.slice (.int .u32))],[.val (.slice (.int .u32))],fun x=>k8 x.1⟩
noncomputable def B2:Cx:=⟨tpr,[],[]⟩
theorem tW:FB 129 oH:=fbk B2 yN none (by intro x;kernel_rfl) (.nil _) Tryz.func129
def kZ:an:=⟨[.val .bool,.val (.slice (.int .u32))],[.val dK],fun x=>gm x.1 x.2.1⟩
noncomputable def FX:Cx:=⟨tpr,[(129,oH)],[]⟩
theorem nS:FB 110 kZ:=fbk FX [] none (by intro x;kernel_rfl) (cz tW (.nil _)) Tryz.func110
def FO:List (Nat×Ann):=[(100003,⟨[(0,.val tI),(2,.ref 2 0),(3,.val (.int .u64))],[(2,yU)],[],fun _=>0⟩)]
def BK:an:=⟨[.val tI],[.val dK],fun x=>qV x.1⟩
noncomputable def Iq:Cx:=⟨tpr,[(110,kZ)],[]⟩
theorem Iy:FB 84 BK:=fbk Iq FO none (by intro x;kernel_rfl) (cz nS (.nil _)) Tryz.func84
def w8:List (Nat×Ann):=[(3,⟨[(2,.ref 2 0),(3,.ref 3 0),(4,.ref 4 0),(5,.rowR 18),(20,.val (.slice (.int .u32))),(21,.val tI),(22,.val tI)],[(2,kT),(3,kT),(4,yU)],[.rowC 18 106 (.int .u32)],bA _⟩),
 (7,⟨[(2,.ref 2 0),(3,.ref 3 0),(4,.ref 4 0),(5,.rowR 18),(6,.val tI),(7,.val (.int .u32)),(8,.val (.int .u64)),(20,.val (.slice (.int .u32))),(21,.val tI),(22,.val tI),(28,.val (.slice (.int .u32))),(29,.val tI),(30,.val tI)],[(2,kT),(3,kT),(4,yU)],[.rowC 18 106 (.int .u32)],bA _⟩),
 (200003,⟨[(2,.ref 2 0),(3,.ref 3 0),(4,.ref 4 0),(5,.rowR 18)],[(2,kT),(3,kT),(4,yU)],[.rowC 18 106 (.int .u32)],fun _=>0⟩),
 (200007,⟨[(2,.ref 2 0),(3,.ref 3 0),(4,.ref 4 0),(5,.rowR 18),(6,.val tI),(8,.val (.int .u64)),(20,.val (.slice (.int .u32))),(21,.val tI),(22,.val tI)],[(2,kT),(3,kT),(4,yU)],[.rowC 18 106 (.int .u32)],fun _=>0⟩)]
def sw:an:=⟨[.val dK,.val dK],[.val dK],fun x=>jf x.1 x.2.1⟩
noncomputable def zi:Cx:=⟨tpr,[(110,kZ)],[]⟩
theorem zC:FB 85 sw:=fbk zi w8 none (by intro x;kernel_rfl) (cz nS (.nil _)) Tryz.func85
def BT:List (Nat×Ann):=[(6,⟨[(1,.val (.slice (.int .u32))),(5,.own 106 (.int .u32)),(6,.val (.int .u64)),(20,.val (.slice (.int .u32))),(21,.val tI),(22,.val tI)],[],[],bA _⟩),
 (100002,⟨[(0,.val (.slice (.int .u32))),(1,.val (.slice (.int .u32)))],[],[],fun _=>0⟩),
 (100010,⟨[(1,.val (.slice (.int .u32))),(5,.own 106 (.int .u32)),(6,.val (.int .u64)),(20,.val (.slice (.int .u32))),(21,.val tI),(22,.val tI)],[],[],fun _=>0⟩),
 (200006,⟨[(5,.own 106 (.int .u32)),(6,.val (.int .u64))],[],[],fun _=>0⟩)]
def wX:an:=⟨[.val (.slice (.int .u32)),.val (.slice (.int .u32))],[.val (.slice (.int .u32))],fun x=>vR x.1 x.2.1⟩
noncomputable def Ej:Cx:=⟨tpr,[],[]⟩
theorem Eu:FB 111 wX:=fbk Ej BT none (by intro x;kernel_rfl) (.nil _) Tryz.func111
def yM:List (Nat×Ann):=[(4,⟨[(0,.val (.slice (.int .u32))),(1,.val (.slice (.int .u32))),(5,.val tI)],[],[],bA _⟩),
 (200004,⟨[],[],[],fun _=>0⟩)]
def uD:an:=⟨[.val (.slice (.int .u32)),.val (.slice (.int .u32))],[.val tI],fun x=>om x.1 x.2.1⟩
noncomputable def B1:Cx:=⟨tpr,[],[]⟩
theorem Cb:FB 112 uD:=fbk B1 yM none (by intro x;kernel_rfl) (.nil _) Tryz.func112
def CG:List (Nat×Ann):=[(4,⟨[(1,.val (.slice (.int .u32))),(5,.own 106 (.int .u32)),(6,.val (.int .u64)),(13,.val (.slice (.int .u32))),(14,.val tI),(15,.val tI)],[],[],bA _⟩),
 (100008,⟨[(1,.val (.slice (.int .u32))),(5,.own 106 (.int .u32)),(9,.val (.int .u64)),(13,.val (.slice (.int .u32))),(14,.val tI),(15,.val tI)],[],[],fun _=>0⟩),
 (200004,⟨[(5,.own 106 (.int .u32))],[],[],fun _=>0⟩)]
def ym:an:=⟨[.val (.slice (.int .u32)),.val (.slice (.int .u32))],[.val (.slice (.int .u32))],fun x=>qj x.1 x.2.1⟩
noncomputable def FW:Cx:=⟨tpr,[(129,oH)],[]⟩
theorem FZ:FB 113 ym:=fbk FW CG none (by intro x;kernel_rfl) (cz tW (.nil _)) Tryz.func113
def sU:an:=⟨[.val dK,.val dK],[.val dK],fun x=>jS x.1 x.2.1⟩
noncomputable def A5:Cx:=⟨tpr,[(110,kZ),(111,wX),(112,uD),(113,ym)],[]⟩
theorem Bb:FB 86 sU:=fbk A5 [] none (by intro x;kernel_rfl) (cz nS (cz Eu (cz Cb (cz FZ (.nil _))))) Tryz.func86
def sV:an:=⟨[.val dK],[.val tI],fun x=>jT x.1⟩
noncomputable def A6:Cx:=⟨tpr,[],[]⟩
theorem Bc:FB 87 sV:=fbk A6 [] none (by intro x;kernel_rfl) (.nil _) Tryz.func87
def su:an:=⟨[.val dK],[.val dK],fun x=>je x.1⟩
noncomputable def zh:Cx:=⟨tpr,[(110,kZ)],[]⟩
theorem zB:FB 88 su:=fbk zh [] none (by intro x;kernel_rfl) (cz nS (.nil _)) Tryz.func88
def yL:List (Nat×Ann):=[(5,⟨[(1,.val tI),(2,.ref 2 0),(6,.val (.int .u64)),(14,.val (.slice (.int .u32))),(15,.val tI),(16,.val tI)],[(2,kT)],[],bA _⟩),
 (200005,⟨[(1,.val tI),(2,.ref 2 0),(6,.val (.int .u64))],[(2,kT)],[],fun _=>0⟩)]
def uC:an:=⟨[.val dK,.val tI],[.val tI,.val .bool],fun x=>og x.1 x.2.1⟩
noncomputable def B0:Cx:=⟨tpr,[],[]⟩
theorem Ca:FB 114 uC:=fbk B0 yL none (by intro x;kernel_rfl) (.nil _) Tryz.func114
def wP:an:=⟨[.val dK,.val tI],[.val bG,.val tI],fun x=>lf x.1 x.2.1⟩
noncomputable def D9:Cx:=⟨tpr,[(114,uC)],[]⟩
theorem El:FB 89 wP:=fbk D9 [] none (by intro x;kernel_rfl) (cz Ca (.nil _)) Tryz.func89
def BN:List (Nat×Ann):=[(3,⟨[(0,.val .bool),(1,.val .str),(2,.val .str),(6,.ref 6 0),(8,.ref 8 0),(14,.val tI),(15,.val tI)],[(6,[.val tI,.val tI]),(8,kT)],[],bA _⟩),
 (200003,⟨[(0,.val .bool),(2,.val .str),(6,.ref 6 0),(8,.ref 8 0)],[(6,[.val tI,.val tI]),(8,kT)],[],fun _=>0⟩)]
def wQ:an:=⟨[.val .bool,.val .str,.val .str],[.val bG,.val tI],fun x=>q7 x.1 x.2.1 x.2.2.1⟩
noncomputable def Ea:Cx:=⟨tpr,[(84,BK),(85,sw),(86,sU),(87,sV),(88,su),(89,wP)],[]⟩
theorem Em:FB 61 wQ:=fbk Ea BN none (by intro x;kernel_rfl) (cz Iy (cz zC (cz Bb (cz Bc (cz zB (cz El (.nil _))))))) Tryz.func61
def w6:List (Nat×Ann):=[(300003,⟨[(40,.val .bool)],[],[],fun _=>0⟩)]
def r0:an:=⟨[.val .str],[.val bG,.val tI],fun x=>lG x.1⟩
noncomputable def yY:Cx:=⟨tpr,[(11,nh),(57,gF),(59,kL),(60,sP),(61,wQ)],[]⟩
theorem zn:FB 41 r0:=fbk yY w6 none (by intro x;kernel_rfl) (cz qA (.cons pN uV (cz pz (cz A7 (cz Em (.nil _)))))) Tryz.func41
end Go.Proofs.SeatU
end
