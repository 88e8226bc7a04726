/-
  Each function that the law reaches is as its plain model says. No condition.
-/
import Derived.Test.YtjlkkapojeldlaaGreatDoorYv
set_option maxRecDepth 100000
noncomputable section
namespace Go.Proofs
noncomputable abbrev tpr:=Tryz.prog
end Go.Proofs
namespace Go.Proofs.SeatU
open Go.Dn Go.Md Go.Proofs
theorem nE:Tryz.prog.follows .mixedOrders=true:=by kernel_rfl
def pS (X:Cx) (anns:List (Nat×Ann)) (ar:Option Ty) (fn:Func) (sp:ax):Prop:=∀ x,Cf X anns ar fn sp x=sp.m x
theorem kN {X:Cx} {anns:List (Nat×Ann)} {ar:Option Ty} {fn:Func} {sp:ax} (h:pS X anns ar fn sp) (hX:bR X) (hm:X.P.follows .mixedOrders=true) {f:FuncId} (hf:X.P.funcs[f]? =some fn):bO X.P f sp:=Gv hX hm sp anns ar hf fun x _ e=>(h x).trans e
def FB (f:Nat) (sp:ax):Prop:=bO tpr f sp/\cB tpr f
theorem fbk (X:Cx) (anns:List (Nat×Ann)) (ar:Option Ty) {fn:Func} {sp:ax} {f:Nat} (h:pS X anns ar fn sp) (hX:bR X) (hf:tpr.funcs[f]? =some fn) (e:X.P=tpr:=by exact rfl) (h1:fn.body.isSome=true:=by exact rfl) (h2:fn.name≠ "runtime.NumGoroutine" :=by decide):FB f sp:=by
 have k:=kN h hX (by rw[e];exact nE) (by rw[e];exact hf)
 rw[e] at k
 exact⟨k,di hf h1 h2⟩
theorem cz {f:Nat} {sp:ax} {r:List (Nat×ax)} {ks:List (Nat×BJ)} (h:FB f sp) (t:bR ⟨tpr,r,ks⟩):bR ⟨tpr,(f,sp)::r,ks⟩:= .cons h.1 h.2 t
def iE:ax:=⟨[.val .str,.val .str],[.val .bool],fun x=>fH x.1 x.2.1⟩
noncomputable def o3:Cx:=⟨tpr,[],[]⟩
theorem pn:FB 102 iE:=fbk o3 [] none (by intro x;kernel_rfl) (.nil _) Tryz.func102
def iC:ax:=⟨[.val .str,.val .str],[.val .str,.val .bool],fun x=>fF x.1 x.2.1⟩
noncomputable def oY:Cx:=⟨tpr,[(102,iE)],[]⟩
theorem pe:FB 59 iC:=fbk oY [] none (by intro x;kernel_rfl) (cz pn (.nil _)) Tryz.func59
def sA:ax:=⟨[.val .str,.val .str],[.val .str,.val .bool],fun x=>kE x.1 x.2.1⟩
noncomputable def Ak:Cx:=⟨tpr,[(59,iC)],[]⟩
theorem Ar:FB 28 sA:=fbk Ak [] none (by intro x;kernel_rfl) (cz pe (.nil _)) Tryz.func28
def C6:ax:=⟨[.val .str],[.val (.slice .str),.val .bool],fun x=>lz x.1⟩
noncomputable def K4:Cx:=⟨tpr,[(28,sA),(29,qI)],[]⟩
theorem Kc:pS K4 [] none Tryz.f11 C6:=by intro x;kernel_rfl
theorem L2:bO tpr 11 C6:=kN Kc (cz Ar (.cons wO wI (.nil _))) nE Tryz.func11
def HG:List (Nat×Ann):=[(3,⟨[(4,.rowR 27920),(9,.rowR 27920),(10,.val tI),(11,.val tI)],[],[.rowC 27920 9 .str],aY _⟩),
 (200003,⟨[(4,.rowR 27920)],[],[.rowC 27920 9 .str],fun _=>0⟩)]
def C7:ax:=⟨[.val .str],[.val (.slice .str),.val .bool],fun x=>iy x.1⟩
noncomputable def K5:Cx:=⟨tpr,[(29,qI)],[]⟩
theorem Ke:pS K5 HG none Tryz.f30 C7:=by intro x;kernel_rfl
theorem L3:bO tpr 30 C7:=kN Ke (.cons wO wI (.nil _)) nE Tryz.func30
def iD:ax:=⟨[.val .str,.val .str],[.val .bool],fun x=>fG x.1 x.2.1⟩
noncomputable def oZ:Cx:=⟨tpr,[],[]⟩
theorem pg:FB 145 iD:=fbk oZ [] none (by intro x;kernel_rfl) (.nil _) Tryz.func145
def iB:ax:=⟨[.val .str,.val .str],[.val .str,.val .bool],fun x=>fE x.1 x.2.1⟩
noncomputable def oX:Cx:=⟨tpr,[(145,iD)],[]⟩
theorem o9:FB 109 iB:=fbk oX [] none (by intro x;kernel_rfl) (cz pg (.nil _)) Tryz.func109
def l6:ax:=⟨[.val .str,.val .str],[.val .str,.val .bool],fun x=>gV x.1 x.2.1⟩
noncomputable def Aj:Cx:=⟨tpr,[(109,iB)],[]⟩
theorem rC:FB 63 l6:=fbk Aj [] none (by intro x;kernel_rfl) (cz o9 (.nil _)) Tryz.func63
def kr:ax:=⟨[.val .str,.val .str],[.val tI],fun x=>eP x.1 x.2.1⟩
noncomputable def sG:Cx:=⟨tpr,[(129,eK)],[]⟩
theorem sH:FB 72 kr:=fbk sG [] none (by intro x;kernel_rfl) (.cons pF pE (.nil _)) Tryz.func72
def lH:ax:=⟨[.val .str,.val .str],[.val .str,.val .str,.val .bool],fun x=>iH x.1 x.2.1⟩
noncomputable def uz:Cx:=⟨tpr,[(72,kr)],[]⟩
theorem uD:FB 38 lH:=fbk uz [] none (by intro x;kernel_rfl) (cz sH (.nil _)) Tryz.func38
def oL:ax:=⟨[.val .str,.val .str],[.val .str,.val .str,.val .bool],fun x=>mN x.1 x.2.1⟩
noncomputable def Ia:Cx:=⟨tpr,[(38,lH)],[]⟩
theorem ox:FB 14 oL:=fbk Ia [] none (by intro x;kernel_rfl) (cz uD (.nil _)) Tryz.func14
theorem IK:bO tpr 14 oL:=ox.1
theorem RG:cB tpr 14:=ox.2
def Bu:List (Nat×Ann):=[(300001,⟨[(2,.val .bool)],[],[],fun _=>0⟩)]
def vz:ax:=⟨[.val .str],[.val .bool],fun x=>oo x.1⟩
noncomputable def DU:Cx:=⟨tpr,[(61,eg)],[]⟩
theorem D1:FB 64 vz:=fbk DU Bu none (by intro x;kernel_rfl) (.cons jx mV (.nil _)) Tryz.func64
def BR:List (Nat×Ann):=[(1,⟨[(0,.val (.slice (.int .u32)))],[],[],aY _⟩),
 (200001,⟨[(0,.val (.slice (.int .u32)))],[],[],fun _=>0⟩)]
def qJ:ax:=⟨[.val (.slice (.int .u32))],[.val (.slice (.int .u32))],fun x=>mA x.1⟩
noncomputable def Fc:Cx:=⟨tpr,[],[]⟩
theorem wG:FB 154 qJ:=fbk Fc BR none (by intro x;kernel_rfl) (.nil _) Tryz.func154
end Go.Proofs.SeatU
end
