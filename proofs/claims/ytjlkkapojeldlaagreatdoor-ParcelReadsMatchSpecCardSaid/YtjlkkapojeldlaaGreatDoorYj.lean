/-
  Each function that the law reaches is as its plain model says, a further part. No condition.
-/
import Derived.Test.YtjlkkapojeldlaaGreatDoorYi
set_option maxRecDepth 100000
noncomputable section
namespace Go.Proofs.SeatU
open Go.Dn Go.Md Go.Proofs
def Aa:List (Nat×Ann):=[(4,⟨[(1,.val (.slice aK)),(13,.val (.slice aK)),(14,.val tI),(15,.val tI)],[],[],aY _⟩),
 (200004,⟨[],[],[],fun _=>0⟩)]
def uW:ax:=⟨[.val (.slice aK),.val (.slice aK)],[.val .bool],fun x=>mY x.1 x.2.1⟩
noncomputable def B9:Cx:=⟨tpr,[(49,lI)],[]⟩
theorem Ci:FB 17 uW:=fbk B9 Aa none (by intro x;kernel_rfl) (cz uF (.nil _)) Tryz.func17
def JX:List (Nat×Ann):=[(300001,⟨[(4,.val .bool)],[],[],fun _=>0⟩)]
def EG:ax:=⟨[.val eM,.val eM],[.val .bool],fun x=>AQ x.1 x.2.1⟩
noncomputable def MD:Cx:=⟨tpr,[(17,uW)],[]⟩
theorem MN:FB 7 EG:=fbk MD JX none (by intro x;kernel_rfl) (cz Ci (.nil _)) Tryz.func7
def EY:List (Nat×Ann):=[(5,⟨[(4,.val tI),(15,.val tI),(16,.val tI)],[],[],aY _⟩),
 (200005,⟨[(4,.val tI)],[],[],fun _=>0⟩)]
def zM:ax:=⟨[.val .str],[.val tI,.val .bool],fun x=>Ey x.1⟩
noncomputable def HX:Cx:=⟨tpr,[(61,eg)],[]⟩
theorem Ik:FB 50 zM:=fbk HX EY none (by intro x;kernel_rfl) (.cons jx mV (.nil _)) Tryz.func50
def yN:List (Nat×Ann):=[(16,⟨[(0,.val tI),(1,.val .str),(49,.val tI)],[],[],aY _⟩),
 (200016,⟨[],[],[],fun _=>0⟩)]
def sJ:ax:=⟨[.val tI,.val .str],[.val .str,.val tI],fun x=>wq x.1 x.2.1⟩
noncomputable def Bv:Cx:=⟨tpr,[(21,nj),(85,qH),(86,w8),(87,sr),(88,w9),(89,qG),(90,nS)],[]⟩
theorem BB:FB 52 sJ:=fbk Bv yN none (by intro x;kernel_rfl) (.cons xS xL (cz wF (.cons Fu Fm (.cons AI Au (.cons Fv Fo (.cons wN wH (cz uC (.nil _)))))))) Tryz.func52
def vB:ax:=⟨[.val .str,.val tI],[.val .str,.val tI],fun x=>zy x.1 x.2.1⟩
noncomputable def DW:Cx:=⟨tpr,[(21,nj),(50,zM),(51,kZ),(52,sJ),(53,oS)],[]⟩
theorem D3:FB 18 vB:=fbk DW [] none (by intro x;kernel_rfl) (.cons xS xL (cz Ik (cz ov (cz BB (.cons D8 D7 (.nil _)))))) Tryz.func18
def C8:ax:=⟨[],[.val .bool],fun _=>Cz⟩
noncomputable def K6:Cx:=⟨tpr,[(18,vB)],[]⟩
theorem Lm:FB 8 C8:=fbk K6 [] none (by intro x;kernel_rfl) (cz D3 (.nil _)) Tryz.func8
end Go.Proofs.SeatU
end
