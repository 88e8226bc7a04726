/-
  Each function that the law reaches is as its plain model says. No condition.
-/
import Derived.Test.YtjlkkapojeldlabGreatDoorYv
set_option maxRecDepth 100000
noncomputable section
namespace Go.Proofs
noncomputable abbrev tpr:=Tryz.prog
end Go.Proofs
namespace Go.Proofs.SeatU
open Go.Dn Go.Md Go.Proofs
theorem pG:Tryz.prog.follows .mixedOrders=true:=by kernel_rfl
def rR (X:Cx) (anns:List (Nat×Ann)) (ar:Option Ty) (fn:Func) (sp:an):Prop:=∀ x,Dk X anns ar fn sp x=sp.m x
theorem mq {X:Cx} {anns:List (Nat×Ann)} {ar:Option Ty} {fn:Func} {sp:an} (h:rR X anns ar fn sp) (hX:cA X) (hm:X.P.follows .mixedOrders=true) {f:FuncId} (hf:X.P.funcs[f]? =some fn):cM X.P f sp:=Ir hX hm sp anns ar hf fun x _ e=>(h x).trans e
def FB (f:Nat) (sp:an):Prop:=cM tpr f sp/\dZ tpr f
theorem fbk (X:Cx) (anns:List (Nat×Ann)) (ar:Option Ty) {fn:Func} {sp:an} {f:Nat} (h:rR X anns ar fn sp) (hX:cA X) (hf:tpr.funcs[f]? =some fn) (e:X.P=tpr:=by exact rfl) (h1:fn.body.isSome=true:=by exact rfl) (h2:fn.name≠ "runtime.NumGoroutine" :=by decide):FB f sp:=by
 have k:=mq h hX (by rw[e];exact pG) (by rw[e];exact hf)
 rw[e] at k
 exact⟨k,iA hf h1 h2⟩
theorem cz {f:Nat} {sp:an} {r:List (Nat×an)} {ks:List (Nat×Hf)} (h:FB f sp) (t:cA ⟨tpr,r,ks⟩):cA ⟨tpr,(f,sp)::r,ks⟩:= .cons h.1 h.2 t
def kN:an:=⟨[.val .str,.val .str],[.val .bool],fun x=>iE x.1 x.2.1⟩
noncomputable def tM:Cx:=⟨tpr,[],[]⟩
theorem tT:FB 103 kN:=fbk tM [] none (by intro x;kernel_rfl) (.nil _) Tryz.func103
def kL:an:=⟨[.val .str,.val .str],[.val .str,.val .bool],fun x=>iC x.1 x.2.1⟩
noncomputable def tK:Cx:=⟨tpr,[(103,kN)],[]⟩
theorem tP:FB 66 kL:=fbk tK [] none (by intro x;kernel_rfl) (cz tT (.nil _)) Tryz.func66
def w5:an:=⟨[.val .str,.val .str],[.val .str,.val .bool],fun x=>ny x.1 x.2.1⟩
noncomputable def Ff:Cx:=⟨tpr,[(66,kL)],[]⟩
theorem Fm:FB 31 w5:=fbk Ff [] none (by intro x;kernel_rfl) (cz tP (.nil _)) Tryz.func31
def Jb:an:=⟨[.val .str],[.val (.slice .str),.val .bool],fun x=>om x.1⟩
noncomputable def Sg:Cx:=⟨tpr,[(31,w5),(32,vj)],[]⟩
theorem Q8:rR Sg [] none Tryz.f11 Jb:=by intro x;kernel_rfl
theorem Tm:cM tpr 11 Jb:=mq Q8 (cz Fm (.cons BJ BE (.nil _))) pG Tryz.func11
def Om:List (Nat×Ann):=[(3,⟨[(4,.rowR 27920),(9,.rowR 27920),(10,.val tI),(11,.val tI)],[],[.rowC 27920 9 .str],aO _⟩),
 (200003,⟨[(4,.rowR 27920)],[],[.rowC 27920 9 .str],fun _=>0⟩)]
def Jc:an:=⟨[.val .str],[.val (.slice .str),.val .bool],fun x=>iR x.1⟩
noncomputable def Sh:Cx:=⟨tpr,[(32,vj)],[]⟩
theorem Q9:rR Sh Om none Tryz.f33 Jc:=by intro x;kernel_rfl
theorem Tn:cM tpr 33 Jc:=mq Q9 (.cons BJ BE (.nil _)) pG Tryz.func33
def kM:an:=⟨[.val .str,.val .str],[.val .bool],fun x=>iD x.1 x.2.1⟩
noncomputable def tL:Cx:=⟨tpr,[],[]⟩
theorem tQ:FB 187 kM:=fbk tL [] none (by intro x;kernel_rfl) (.nil _) Tryz.func187
def kK:an:=⟨[.val .str,.val .str],[.val .str,.val .bool],fun x=>iB x.1 x.2.1⟩
noncomputable def tJ:Cx:=⟨tpr,[(187,kM)],[]⟩
theorem tO:FB 155 kK:=fbk tJ [] none (by intro x;kernel_rfl) (cz tQ (.nil _)) Tryz.func155
def w4:an:=⟨[.val .str,.val .str],[.val .str,.val .bool],fun x=>ki x.1 x.2.1⟩
noncomputable def Fe:Cx:=⟨tpr,[(155,kK)],[]⟩
theorem Fl:FB 109 w4:=fbk Fe [] none (by intro x;kernel_rfl) (cz tO (.nil _)) Tryz.func109
def nt:an:=⟨[.val .str,.val .str],[.val tI],fun x=>gO x.1 x.2.1⟩
noncomputable def xo:Cx:=⟨tpr,[(122,gM)],[]⟩
theorem xp:FB 75 nt:=fbk xo [] none (by intro x;kernel_rfl) (.cons tX tV (.nil _)) Tryz.func75
def ox:an:=⟨[.val .str,.val .str],[.val .str,.val .str,.val .bool],fun x=>kT x.1 x.2.1⟩
noncomputable def zk:Cx:=⟨tpr,[(75,nt)],[]⟩
theorem zo:FB 47 ox:=fbk zk [] none (by intro x;kernel_rfl) (cz xp (.nil _)) Tryz.func47
def EI:an:=⟨[.val .str,.val .str],[.val .str,.val .str,.val .bool],fun x=>uo x.1 x.2.1⟩
noncomputable def OD:Cx:=⟨tpr,[(47,ox)],[]⟩
theorem OQ:FB 14 EI:=fbk OD [] none (by intro x;kernel_rfl) (cz zo (.nil _)) Tryz.func14
def GN:List (Nat×Ann):=[(300001,⟨[(2,.val .bool)],[],[],fun _=>0⟩)]
def AB:an:=⟨[.val .str],[.val .bool],fun x=>rU x.1⟩
noncomputable def Kb:Cx:=⟨tpr,[(107,jO)],[]⟩
theorem Kl:FB 110 AB:=fbk Kb GN none (by intro x;kernel_rfl) (.cons wH CF (.nil _)) Tryz.func110
def Hq:List (Nat×Ann):=[(1,⟨[(0,.val (.slice (.int .u32)))],[],[],aO _⟩),
 (200001,⟨[(0,.val (.slice (.int .u32)))],[],[],fun _=>0⟩)]
def lg:an:=⟨[.val (.slice (.int .u32))],[.val (.slice (.int .u32))],fun x=>lX x.1⟩
noncomputable def LB:Cx:=⟨tpr,[],[]⟩
theorem kR:FB 144 lg:=fbk LB Hq none (by intro x;kernel_rfl) (.nil _) Tryz.func144
theorem aaw:cM tpr 144 lg:=kR.1
theorem LQ:dZ tpr 144:=kR.2
end Go.Proofs.SeatU
end
