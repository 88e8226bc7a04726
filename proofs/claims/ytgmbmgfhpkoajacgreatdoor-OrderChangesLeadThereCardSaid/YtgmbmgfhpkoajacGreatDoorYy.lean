/-
  The law itself is as its plain model says. No condition.
-/
import Derived.Test.YtgmbmgfhpkoajacGreatDoorYl
import Derived.Test.YtgmbmgfhpkoajacGreatDoorYj
set_option maxRecDepth 100000
noncomputable section
namespace Go.Proofs.SeatA
open Go.Dn Go.Md Go.Proofs
def dW:List CK:=[.val .bool,.own 3 tI]
def z7:List CK:=[.val .bool,.rowR 24]
def jy:List CK:=[.val .bool,.val (.slice tI)]
def Om:List (Nat×Ann):=[(2,⟨[(0,.val tI),(2,.ref 2 0),(3,.ref 3 0)],[(2,dW),(3,dW)],[],br _⟩),
 (200002,⟨[(2,.ref 2 0),(3,.ref 3 0)],[(2,dW),(3,dW)],[],fun _=>0⟩)]
def F8:ay:=⟨[.val tI],[.val bg],fun x=>Ej x.1⟩
noncomputable def Rb:Cx:=⟨tpr,[],[]⟩
theorem LQ:FB 69 F8:=fbk Rb Om none (by intro x;kernel_rfl) (.nil _) Tryz.func69
def Gm:List (Nat×Ann):=[(1,⟨[(1,.ref 1 0),(2,.ref 2 0)],[(1,jy),(2,dW)],[],br _⟩),
 (200001,⟨[(1,.ref 1 0),(2,.ref 2 0)],[(1,jy),(2,dW)],[],fun _=>0⟩)]
def wo:ay:=⟨[.val bg],[.val bg],fun x=>kX x.1⟩
noncomputable def Kw:Cx:=⟨tpr,[],[]⟩
theorem BW:FB 110 wo:=fbk Kw Gm none (by intro x;kernel_rfl) (.nil _) Tryz.func110
def Gl:List (Nat×Ann):=[(3,⟨[(3,.ref 3 0),(4,.ref 4 0),(5,.ref 5 0),(27,.val (.slice tI)),(28,.val tI),(29,.val tI)],[(3,jy),(4,dW),(5,z7)],[.rowC 24 3 tI],br _⟩),
 (6,⟨[(3,.ref 3 0),(4,.ref 4 0),(5,.ref 5 0),(6,.val tI),(7,.val tI),(27,.val (.slice tI)),(28,.val tI),(29,.val tI),(35,.val (.slice tI)),(36,.val tI),(37,.val tI)],[(3,jy),(4,dW),(5,z7)],[.rowC 24 3 tI],br _⟩),
 (14,⟨[(4,.ref 4 0),(5,.ref 5 0),(86,.val tI),(87,.val tI)],[(4,dW),(5,z7)],[.rowC 24 3 tI],br _⟩),
 (200003,⟨[(4,.ref 4 0),(5,.ref 5 0)],[(4,dW),(5,z7)],[.rowC 24 3 tI],fun _=>0⟩),
 (200006,⟨[(3,.ref 3 0),(4,.ref 4 0),(5,.ref 5 0),(27,.val (.slice tI)),(28,.val tI),(29,.val tI)],[(3,jy),(4,dW),(5,z7)],[.rowC 24 3 tI],fun _=>0⟩),
 (200014,⟨[(4,.ref 4 0),(5,.ref 5 0)],[(4,dW),(5,z7)],[.rowC 24 3 tI],fun _=>0⟩)]
def wm:ay:=⟨[.val bg,.val bg],[.val bg],fun x=>p8 x.1 x.2.1⟩
noncomputable def Kv:Cx:=⟨tpr,[(110,wo)],[]⟩
theorem BV:FB 68 wm:=fbk Kv Gl none (by intro x;kernel_rfl) (cz BW (.nil _)) Tryz.func68
def Ki:List (Nat×Ann):=[(3,⟨[(2,.ref 2 0),(3,.ref 3 0),(5,.val tI),(6,.val tI)],[(2,dW),(3,jy)],[],br _⟩),
 (200003,⟨[(2,.ref 2 0),(3,.ref 3 0)],[(2,dW),(3,jy)],[],fun _=>0⟩)]
def Fa:ay:=⟨[.val tI],[.val bg],fun x=>BG x.1⟩
noncomputable def MW:Cx:=⟨tpr,[(68,wm),(69,F8)],[]⟩
theorem M7:FB 70 Fa:=fbk MW Ki none (by intro x;kernel_rfl) (cz BV (cz LQ (.nil _))) Tryz.func70
def My:ay:=⟨[.val aA,.val tI],[.val bg],fun x=>wR x.1 x.2.1⟩
noncomputable def Ra:Cx:=⟨tpr,[(68,wm),(69,F8),(70,Fa)],[]⟩
theorem Rh:FB 41 My:=fbk Ra [] none (by intro x;kernel_rfl) (cz BV (cz LQ (cz M7 (.nil _)))) Tryz.func41
def E9:ay:=⟨[.val bg],[.val bg],fun x=>BE x.1⟩
noncomputable def MV:Cx:=⟨tpr,[],[]⟩
theorem M6:FB 67 E9:=fbk MV [] none (by intro x;kernel_rfl) (.nil _) Tryz.func67
def Kj:List (Nat×Ann):=[(4,⟨[(0,.val (.slice tI)),(1,.val (.slice tI)),(5,.val tI)],[],[],br _⟩),
 (200004,⟨[],[],[],fun _=>0⟩)]
def Fc:ay:=⟨[.val (.slice tI),.val (.slice tI)],[.val tI],fun x=>BH x.1 x.2.1⟩
noncomputable def MY:Cx:=⟨tpr,[],[]⟩
theorem M9:FB 108 Fc:=fbk MY Kj none (by intro x;kernel_rfl) (.nil _) Tryz.func108
def Fb:ay:=⟨[.val (.slice tI),.val tI],[.val tI],fun x=>uA x.1 x.2.1⟩
noncomputable def MX:Cx:=⟨tpr,[],[]⟩
theorem M8:FB 109 Fb:=fbk MX [] none (by intro x;kernel_rfl) (.nil _) Tryz.func109
def Lm:List (Nat×Ann):=[(7,⟨[(2,.ref 2 0),(3,.ref 3 0),(4,.ref 4 0),(5,.ref 5 0),(6,.val tI),(31,.val tI),(32,.val tI)],[(2,jy),(3,jy),(4,dW),(5,dW)],[],br _⟩),
 (19,⟨[(2,.ref 2 0),(3,.ref 3 0),(4,.ref 4 0),(9,.ref 9 0),(10,.val tI),(70,.val tI),(71,.val tI)],[(2,jy),(3,jy),(4,dW),(9,dW)],[],br _⟩),
 (100003,⟨[(2,.ref 2 0),(3,.ref 3 0),(4,.ref 4 0)],[(2,jy),(3,jy),(4,dW)],[],fun _=>0⟩),
 (100012,⟨[(2,.ref 2 0),(3,.ref 3 0),(4,.ref 4 0),(5,.ref 5 0),(6,.val tI),(8,.val tI),(31,.val tI),(32,.val tI)],[(2,jy),(3,jy),(4,dW),(5,dW)],[],fun _=>0⟩),
 (200007,⟨[(4,.ref 4 0),(5,.ref 5 0)],[(4,dW),(5,dW)],[],fun _=>0⟩),
 (200019,⟨[(4,.ref 4 0),(9,.ref 9 0)],[(4,dW),(9,dW)],[],fun _=>0⟩)]
def Ib:ay:=⟨[.val bg,.val bg],[.val bg],fun x=>Ek x.1 x.2.1⟩
noncomputable def OA:Cx:=⟨tpr,[(108,Fc),(109,Fb),(110,wo)],[]⟩
theorem OF:FB 66 Ib:=fbk OA Lm none (by intro x;kernel_rfl) (cz M9 (cz M8 (cz BW (.nil _)))) Tryz.func66
def Ic:ay:=⟨[.val bg],[.val tI],fun x=>El x.1⟩
noncomputable def OB:Cx:=⟨tpr,[],[]⟩
theorem OG:FB 65 Ic:=fbk OB [] none (by intro x;kernel_rfl) (.nil _) Tryz.func65
def J2:ay:=⟨[.val bg,.val bg],[.val tI],fun x=>DB x.1 x.2.1⟩
noncomputable def PT:Cx:=⟨tpr,[(65,Ic),(66,Ib),(67,E9)],[]⟩
theorem P6:FB 40 J2:=fbk PT [] none (by intro x;kernel_rfl) (cz OG (cz OF (cz M6 (.nil _)))) Tryz.func40
def J4:ay:=⟨[.val aA,.val aA],[.val tI],fun x=>vH x.1 x.2.1⟩
noncomputable def PV:Cx:=⟨tpr,[(40,J2),(41,My)],[]⟩
theorem P8:FB 20 J4:=fbk PV [] none (by intro x;kernel_rfl) (cz P6 (cz Rh (.nil _))) Tryz.func20
def Gn:List (Nat×Ann):=[(4,⟨[(3,.ref 3 0),(16,.val (.slice aT)),(17,.val tI),(18,.val tI)],[(3,[.val .str,.val .str,.val .str,.val tI,.val tI,.val (.slice aT)])],[],br _⟩),
 (200004,⟨[],[],[],fun _=>0⟩)]
def Cb:ay:=⟨[.val aY,.val aY],[.val .bool],fun x=>wT x.1 x.2.1⟩
noncomputable def Kx:Cx:=⟨tpr,[(20,J4)],[]⟩
theorem KF:FB 9 Cb:=fbk Kx Gn none (by intro x;kernel_rfl) (cz P8 (.nil _)) Tryz.func9
end Go.Proofs.SeatA
set_option maxRecDepth 100000
namespace Go.Proofs.SeatA
open Go.Dn Go.Md Go.Proofs
def tM:List (Nat×Ann):=[(300003,⟨[(4,.val .bool)],[],[],fun _=>0⟩),
 (300007,⟨[(4,.val .bool)],[],[],fun _=>0⟩)]
def mG:ay:=⟨[.val aY,.val aY],[.val .bool],fun x=>gi x.1 x.2.1⟩
noncomputable def vj:Cx:=⟨tpr,[(4,ya),(5,E7),(6,yW),(7,yU),(8,J3),(9,Cb)],[]⟩
theorem ud:Ge vj tM none Tryz.f3 mG:=by intro x;kernel_rfl
theorem vA:gY tpr 3 mG:=Ah ud (.cons FV FM (cz M4 (cz G6 (cz GZ (cz P7 (cz KF (.nil _))))))) Hu Tryz.func3
end Go.Proofs.SeatA
end
