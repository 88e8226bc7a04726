/-
  Each function that the law reaches is as its plain model says. No condition.
-/
import Derived.Test.YtjlkkapojeldlaaGreatDoorYv
set_option maxRecDepth 100000
noncomputable section
namespace Go.Proofs
noncomputable abbrev tpr:=Tryz.prog
end Go.Proofs
namespace Go.Proofs.SeatU
open Go.Dn Go.Md Go.Proofs
theorem p8:Tryz.prog.follows .mixedOrders=true:=by kernel_rfl
def rS (X:Cx) (anns:List (Nat×Ann)) (ar:Option Ty) (fn:Func) (sp:ak):Prop:=∀ x,Gn X anns ar fn sp x=sp.m x
theorem mH {X:Cx} {anns:List (Nat×Ann)} {ar:Option Ty} {fn:Func} {sp:ak} (h:rS X anns ar fn sp) (hX:bS X) (hm:X.P.follows .mixedOrders=true) {f:FuncId} (hf:X.P.funcs[f]? =some fn):bQ X.P f sp:=Np hX hm sp anns ar hf fun x _ e=>(h x).trans e
def FB (f:Nat) (sp:ak):Prop:=bQ tpr f sp/\cm tpr f
theorem fbk (X:Cx) (anns:List (Nat×Ann)) (ar:Option Ty) {fn:Func} {sp:ak} {f:Nat} (h:rS X anns ar fn sp) (hX:bS X) (hf:tpr.funcs[f]? =some fn) (e:X.P=tpr:=by exact rfl) (h1:fn.body.isSome=true:=by exact rfl) (h2:fn.name≠ "runtime.NumGoroutine" :=by decide):FB f sp:=by
 have k:=mH h hX (by rw[e];exact p8) (by rw[e];exact hf)
 rw[e] at k
 exact⟨k,cX hf h1 h2⟩
theorem cz {f:Nat} {sp:ak} {r:List (Nat×ak)} {ks:List (Nat×CI)} (h:FB f sp) (t:bS ⟨tpr,r,ks⟩):bS ⟨tpr,(f,sp)::r,ks⟩:= .cons h.1 h.2 t
def iO:ak:=⟨[.val .str,.val .str],[.val .bool],fun x=>fI x.1 x.2.1⟩
noncomputable def pS:Cx:=⟨tpr,[],[]⟩
theorem pY:FB 102 iO:=fbk pS [] none (by intro x;kernel_rfl) (.nil _) Tryz.func102
def iM:ak:=⟨[.val .str,.val .str],[.val .str,.val .bool],fun x=>fG x.1 x.2.1⟩
noncomputable def pQ:Cx:=⟨tpr,[(102,iO)],[]⟩
theorem pW:FB 59 iM:=fbk pQ [] none (by intro x;kernel_rfl) (cz pY (.nil _)) Tryz.func59
def s9:ak:=⟨[.val .str,.val .str],[.val .str,.val .bool],fun x=>kT x.1 x.2.1⟩
noncomputable def Ba:Cx:=⟨tpr,[(59,iM)],[]⟩
theorem Bj:FB 28 s9:=fbk Ba [] none (by intro x;kernel_rfl) (cz pW (.nil _)) Tryz.func28
def D8:ak:=⟨[.val .str],[.val (.slice .str),.val .bool],fun x=>lM x.1⟩
noncomputable def MQ:Cx:=⟨tpr,[(28,s9),(29,rm)],[]⟩
theorem LU:rS MQ [] none Tryz.f11 D8:=by intro x;kernel_rfl
theorem NP:bQ tpr 11 D8:=mH LU (cz Bj (.cons xD xu (.nil _))) p8 Tryz.func11
def Jf:List (Nat×Ann):=[(3,⟨[(4,.rowR 27920),(9,.rowR 27920),(10,.val tI),(11,.val tI)],[],[.rowC 27920 9 .str],aW _⟩),
 (200003,⟨[(4,.rowR 27920)],[],[.rowC 27920 9 .str],fun _=>0⟩)]
def D9:ak:=⟨[.val .str],[.val (.slice .str),.val .bool],fun x=>iJ x.1⟩
noncomputable def MR:Cx:=⟨tpr,[(29,rm)],[]⟩
theorem LV:rS MR Jf none Tryz.f30 D9:=by intro x;kernel_rfl
theorem NQ:bQ tpr 30 D9:=mH LV (.cons xD xu (.nil _)) p8 Tryz.func30
def iN:ak:=⟨[.val .str,.val .str],[.val .bool],fun x=>fH x.1 x.2.1⟩
noncomputable def pR:Cx:=⟨tpr,[],[]⟩
theorem pX:FB 145 iN:=fbk pR [] none (by intro x;kernel_rfl) (.nil _) Tryz.func145
def iL:ak:=⟨[.val .str,.val .str],[.val .str,.val .bool],fun x=>fF x.1 x.2.1⟩
noncomputable def pP:Cx:=⟨tpr,[(145,iN)],[]⟩
theorem pV:FB 109 iL:=fbk pP [] none (by intro x;kernel_rfl) (cz pX (.nil _)) Tryz.func109
def s8:ak:=⟨[.val .str,.val .str],[.val .str,.val .bool],fun x=>iq x.1 x.2.1⟩
noncomputable def A9:Cx:=⟨tpr,[(109,iL)],[]⟩
theorem Bi:FB 63 s8:=fbk A9 [] none (by intro x;kernel_rfl) (cz pV (.nil _)) Tryz.func63
def kR:ak:=⟨[.val .str,.val .str],[.val tI],fun x=>eV x.1 x.2.1⟩
noncomputable def tw:Cx:=⟨tpr,[(129,eP)],[]⟩
theorem tC:FB 72 kR:=fbk tw [] none (by intro x;kernel_rfl) (.cons p9 p4 (.nil _)) Tryz.func72
def lU:ak:=⟨[.val .str,.val .str],[.val .str,.val .str,.val .bool],fun x=>iR x.1 x.2.1⟩
noncomputable def vh:Cx:=⟨tpr,[(72,kR)],[]⟩
theorem vm:FB 38 lU:=fbk vh [] none (by intro x;kernel_rfl) (cz tC (.nil _)) Tryz.func38
def AK:ak:=⟨[.val .str,.val .str],[.val .str,.val .str,.val .bool],fun x=>qu x.1 x.2.1⟩
noncomputable def Jz:Cx:=⟨tpr,[(38,lU)],[]⟩
theorem JQ:FB 14 AK:=fbk Jz [] none (by intro x;kernel_rfl) (cz vm (.nil _)) Tryz.func14
def Cs:List (Nat×Ann):=[(300001,⟨[(2,.val .bool)],[],[],fun _=>0⟩)]
def wq:ak:=⟨[.val .str],[.val .bool],fun x=>oJ x.1⟩
noncomputable def E2:Cx:=⟨tpr,[(61,eC)],[]⟩
theorem Fa:FB 64 wq:=fbk E2 Cs none (by intro x;kernel_rfl) (.cons jM nB (.nil _)) Tryz.func64
def CS:List (Nat×Ann):=[(1,⟨[(0,.val (.slice (.int .u32)))],[],[],aW _⟩),
 (200001,⟨[(0,.val (.slice (.int .u32)))],[],[],fun _=>0⟩)]
def mw:ak:=⟨[.val (.slice (.int .u32))],[.val (.slice (.int .u32))],fun x=>mO x.1⟩
noncomputable def Gm:Cx:=⟨tpr,[],[]⟩
theorem l9:FB 154 mw:=fbk Gm CS none (by intro x;kernel_rfl) (.nil _) Tryz.func154
theorem TH:bQ tpr 154 mw:=l9.1
theorem GB:cm tpr 154:=l9.2
end Go.Proofs.SeatU
end
