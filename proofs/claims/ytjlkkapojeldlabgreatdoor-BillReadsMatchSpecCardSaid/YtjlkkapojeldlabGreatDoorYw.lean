/-
  Each function that the law reaches is as its plain model says. No condition.
-/
import Derived.Test.YtjlkkapojeldlabGreatDoorYv
set_option maxRecDepth 100000
noncomputable section
namespace Go.Proofs
noncomputable abbrev tpr:=Tryz.prog
end Go.Proofs
namespace Go.Proofs.SeatU
open Go.Dn Go.Md Go.Proofs
theorem qB:Tryz.prog.follows .mixedOrders=true:=by kernel_rfl
def tC (X:Cx) (anns:List (Nat×Ann)) (ar:Option Ty) (fn:Func) (sp:ax):Prop:=∀ x,BE X anns ar fn sp x=sp.m x
theorem nD {X:Cx} {anns:List (Nat×Ann)} {ar:Option Ty} {fn:Func} {sp:ax} (h:tC X anns ar fn sp) (hX:cA X) (hm:X.P.follows .mixedOrders=true) {f:FuncId} (hf:X.P.funcs[f]? =some fn):cZ X.P f sp:=FU hX hm sp anns ar hf fun x _ e=>(h x).trans e
def FB (f:Nat) (sp:ax):Prop:=cZ tpr f sp/\eY tpr f
theorem fbk (X:Cx) (anns:List (Nat×Ann)) (ar:Option Ty) {fn:Func} {sp:ax} {f:Nat} (h:tC X anns ar fn sp) (hX:cA X) (hf:tpr.funcs[f]? =some fn) (e:X.P=tpr:=by exact rfl) (h1:fn.body.isSome=true:=by exact rfl) (h2:fn.name≠ "runtime.NumGoroutine" :=by decide):FB f sp:=by
 have k:=nD h hX (by rw[e];exact qB) (by rw[e];exact hf)
 rw[e] at k
 exact⟨k,kX hf h1 h2⟩
theorem cz {f:Nat} {sp:ax} {r:List (Nat×ax)} {ks:List (Nat×EU)} (h:FB f sp) (t:cA ⟨tpr,r,ks⟩):cA ⟨tpr,(f,sp)::r,ks⟩:= .cons h.1 h.2 t
def kS:ax:=⟨[.val .str,.val .str],[.val .bool],fun x=>iI x.1 x.2.1⟩
noncomputable def sU:Cx:=⟨tpr,[],[]⟩
theorem sZ:FB 103 kS:=fbk sU [] none (by intro x;kernel_rfl) (.nil _) Tryz.func103
def kQ:ax:=⟨[.val .str,.val .str],[.val .str,.val .bool],fun x=>iG x.1 x.2.1⟩
noncomputable def sR:Cx:=⟨tpr,[(103,kS)],[]⟩
theorem sX:FB 66 kQ:=fbk sR [] none (by intro x;kernel_rfl) (cz sZ (.nil _)) Tryz.func66
def vT:ax:=⟨[.val .str,.val .str],[.val .str,.val .bool],fun x=>nq x.1 x.2.1⟩
noncomputable def Dm:Cx:=⟨tpr,[(66,kQ)],[]⟩
theorem Dx:FB 31 vT:=fbk Dm [] none (by intro x;kernel_rfl) (cz sX (.nil _)) Tryz.func31
def GL:ax:=⟨[.val .str],[.val (.slice .str),.val .bool],fun x=>n7 x.1⟩
noncomputable def Pj:Cx:=⟨tpr,[(31,vT),(32,uy)],[]⟩
theorem Oe:tC Pj [] none Tryz.f11 GL:=by intro x;kernel_rfl
theorem P9:cZ tpr 11 GL:=nD Oe (cz Dx (.cons Ar Am (.nil _))) qB Tryz.func11
def LQ:List (Nat×Ann):=[(3,⟨[(4,.rowR 27920),(9,.rowR 27920),(10,.val tI),(11,.val tI)],[],[.rowC 27920 9 .str],aY _⟩),
 (200003,⟨[(4,.rowR 27920)],[],[.rowC 27920 9 .str],fun _=>0⟩)]
def GM:ax:=⟨[.val .str],[.val (.slice .str),.val .bool],fun x=>iU x.1⟩
noncomputable def Pk:Cx:=⟨tpr,[(32,uy)],[]⟩
theorem Of:tC Pk LQ none Tryz.f33 GM:=by intro x;kernel_rfl
theorem Qa:cZ tpr 33 GM:=nD Of (.cons Ar Am (.nil _)) qB Tryz.func33
def kR:ax:=⟨[.val .str,.val .str],[.val .bool],fun x=>iH x.1 x.2.1⟩
noncomputable def sS:Cx:=⟨tpr,[],[]⟩
theorem sY:FB 187 kR:=fbk sS [] none (by intro x;kernel_rfl) (.nil _) Tryz.func187
def kP:ax:=⟨[.val .str,.val .str],[.val .str,.val .bool],fun x=>iF x.1 x.2.1⟩
noncomputable def sQ:Cx:=⟨tpr,[(187,kR)],[]⟩
theorem sW:FB 155 kP:=fbk sQ [] none (by intro x;kernel_rfl) (cz sY (.nil _)) Tryz.func155
def oK:ax:=⟨[.val .str,.val .str],[.val .str,.val .bool],fun x=>kj x.1 x.2.1⟩
noncomputable def Dl:Cx:=⟨tpr,[(155,kP)],[]⟩
theorem vm:FB 109 oK:=fbk Dl [] none (by intro x;kernel_rfl) (cz sW (.nil _)) Tryz.func109
def mZ:ax:=⟨[.val .str,.val .str],[.val tI],fun x=>gO x.1 x.2.1⟩
noncomputable def we:Cx:=⟨tpr,[(122,gM)],[]⟩
theorem wg:FB 75 mZ:=fbk we [] none (by intro x;kernel_rfl) (.cons tc s7 (.nil _)) Tryz.func75
def om:ax:=⟨[.val .str,.val .str],[.val .str,.val .str,.val .bool],fun x=>kZ x.1 x.2.1⟩
noncomputable def xY:Cx:=⟨tpr,[(75,mZ)],[]⟩
theorem yb:FB 47 om:=fbk xY [] none (by intro x;kernel_rfl) (cz wg (.nil _)) Tryz.func47
def sg:ax:=⟨[.val .str,.val .str],[.val .str,.val .str,.val .bool],fun x=>pN x.1 x.2.1⟩
noncomputable def Mb:Cx:=⟨tpr,[(47,om)],[]⟩
theorem rL:FB 14 sg:=fbk Mb [] none (by intro x;kernel_rfl) (cz yb (.nil _)) Tryz.func14
theorem MD:cZ tpr 14 sg:=rL.1
theorem WS:eY tpr 14:=rL.2
def EG:List (Nat×Ann):=[(300001,⟨[(2,.val .bool)],[],[],fun _=>0⟩)]
def zh:ax:=⟨[.val .str],[.val .bool],fun x=>rC x.1⟩
noncomputable def HZ:Cx:=⟨tpr,[(107,jU)],[]⟩
theorem Ic:FB 110 zh:=fbk HZ EG none (by intro x;kernel_rfl) (.cons vD Bc (.nil _)) Tryz.func110
def E8:List (Nat×Ann):=[(1,⟨[(0,.val (.slice (.int .u32)))],[],[],aY _⟩),
 (200001,⟨[(0,.val (.slice (.int .u32)))],[],[],fun _=>0⟩)]
def oL:ax:=⟨[.val (.slice (.int .u32))],[.val (.slice (.int .u32))],fun x=>lY x.1⟩
noncomputable def Jn:Cx:=⟨tpr,[],[]⟩
theorem uj:FB 144 oL:=fbk Jn E8 none (by intro x;kernel_rfl) (.nil _) Tryz.func144
end Go.Proofs.SeatU
end
