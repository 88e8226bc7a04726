/-
  Each function that the law reaches is as its plain model says. No condition.
-/
import Derived.Test.YtokceoajcccdiaaGreatDoorYv
set_option maxRecDepth 100000
noncomputable section
namespace Go.Proofs
noncomputable abbrev tpr:=Tryz.prog
end Go.Proofs
namespace Go.Proofs.SeatU
open Go.Dn Go.Md Go.Proofs
theorem Pw:Tryz.prog.follows .mixedOrders=true:=by kernel_rfl
def Ns (X:Cx) (anns:List (Nat×Ann)) (ar:Option Ty) (fn:Func) (sp:aq):Prop:=∀ x,BN X anns ar fn sp x=sp.m x
theorem FM {X:Cx} {anns:List (Nat×Ann)} {ar:Option Ty} {fn:Func} {sp:aq} (h:Ns X anns ar fn sp) (hX:bZ X) (hm:X.P.follows .mixedOrders=true) {f:FuncId} (hf:X.P.funcs[f]? =some fn):eC X.P f sp:=F0 hX hm sp anns ar hf fun x _ e=>(h x).trans e
def FB (f:Nat) (sp:aq):Prop:=eC tpr f sp/\dW tpr f
theorem fbk (X:Cx) (anns:List (Nat×Ann)) (ar:Option Ty) {fn:Func} {sp:aq} {f:Nat} (h:Ns X anns ar fn sp) (hX:bZ X) (hf:tpr.funcs[f]? =some fn) (e:X.P=tpr:=by exact rfl) (h1:fn.body.isSome=true:=by exact rfl) (h2:fn.name≠ "runtime.NumGoroutine" :=by decide):FB f sp:=by
 have k:=FM h hX (by rw[e];exact Pw) (by rw[e];exact hf)
 rw[e] at k
 exact⟨k,iR hf h1 h2⟩
theorem cz {f:Nat} {sp:aq} {r:List (Nat×aq)} {ks:List (Nat×Be)} (h:FB f sp) (t:bZ ⟨tpr,r,ks⟩):bZ ⟨tpr,(f,sp)::r,ks⟩:= .cons h.1 h.2 t
def qb:aq:=⟨[],[.val (.slice .str)],fun _=>eP⟩
noncomputable def EA:Cx:=⟨tpr,[],[]⟩
theorem vI:FB 23 qb:=fbk EA [] none (by intro x;kernel_rfl) (.nil _) Tryz.func23
def nB:aq:=⟨[],[.val (.slice .str)],fun _=>dL⟩
noncomputable def BF:Cx:=⟨tpr,[],[]⟩
theorem tL:FB 24 nB:=fbk BF [] none (by intro x;kernel_rfl) (.nil _) Tryz.func24
def mU:aq:=⟨[.val tI],[.val LF],fun x=>bp x.1⟩
noncomputable def FA:Cx:=⟨tpr,[],[]⟩
theorem qK:FB 25 mU:=fbk FA [] none (by intro x;kernel_rfl) (.nil _) Tryz.func25
def kR:aq:=⟨[.val tI,.val tI,.val tI],[.val .bool],fun x=>eN x.1 x.2.1 x.2.2.1⟩
noncomputable def Hs:Cx:=⟨tpr,[],[]⟩
theorem nU:FB 45 kR:=fbk Hs [] none (by intro x;kernel_rfl) (.nil _) Tryz.func45
def gR:aq:=⟨[.val bA],[.val tI],fun x=>dZ x.1⟩
noncomputable def xo:Cx:=⟨tpr,[(45,kR)],[]⟩
theorem jW:FB 66 gR:=fbk xo [] none (by intro x;kernel_rfl) (cz nU (.nil _)) Tryz.func66
def Bk:List (Nat×Ann):=[(1,⟨[(0,.val (.slice (.int .u32)))],[],[],bL _⟩),
 (200001,⟨[(0,.val (.slice (.int .u32)))],[],[],fun _=>0⟩)]
def lP:aq:=⟨[.val (.slice (.int .u32))],[.val (.slice (.int .u32))],fun x=>me x.1⟩
noncomputable def EG:Cx:=⟨tpr,[],[]⟩
theorem lD:FB 98 lP:=fbk EG Bk none (by intro x;kernel_rfl) (.nil _) Tryz.func98
theorem QW:eC tpr 98 lP:=lD.1
theorem ET:dW tpr 98:=lD.2
end Go.Proofs.SeatU
end
