/-
  Each function that the laws reach is as its plain model says, a further part. No condition.
-/
import Derived.Test.YtcpmaicaibdafaaGreatDoorZy
set_option linter.all false
set_option maxRecDepth 100000
noncomputable section
namespace Go.Proofs.SeatA
open Go.Dn Go.Md Go.Proofs
def abW:List CK:=[.val .str,.val .str,.val .str,.val tI,.val tI,.val (.slice mK),.val (.slice bp),.val tI,.val tI,.val (.slice aV),.map tI (.slice cc),.map tI aq,.own 37 lR]
def abX:List CK:=[.val .str,.val .str,.val tI,.val tI,.val tI,.val .bool,.own 120 cE,.own 122 bU,.own 125 b9]
def abY:List CK:=[.val .str,.val .str,.val tI,.val tI,.val tI,.val .bool,.rowR 60,.own 122 bU,.own 125 b9]
def mI:aK:=⟨[.val (.slice cE)],[.row 120 cE],fun x=>fR x.1⟩
noncomputable def GD:Cx:=⟨tpr,[],[]⟩
theorem FM:aU GD [] none Tryz.f50 mI:=by intro x;kernel_rfl
theorem yt:aB tpr 50:=ay Tryz.func50 rfl (by decide)
theorem yC:aR tpr 50 mI:=aL FM (.nil _) aN Tryz.func50
def Qv:List (Nat×Ann):=[(14,⟨[(7,.ref 7 0),(8,.ref 8 0),(14,.ref 14 0),(62,.val (.slice cc)),(63,.val tI),(64,.val tI)],[(7,[.val .str,.val .str,.val tI,.val tI,.val tI,.val .bool,.val (.slice cE),.val (.slice bU),.val (.slice b9)]),(8,abX),(14,abY)],[.rowC 60 120 cE],bB _⟩),
 (200014,⟨[(8,.ref 8 0),(14,.ref 14 0)],[(8,abX),(14,abY)],[.rowC 60 120 cE],fun _=>0⟩)]
def DZ:aK:=⟨[.val bT,.val (.slice bp),.val .str,.val aV],[.val aV,.val tI],fun x=>Ej x.1 x.2.1 x.2.2.1 x.2.2.2.1⟩
noncomputable def TZ:Cx:=⟨tpr,[(27,qW),(39,yR),(41,ir),(42,qV),(47,kM),(48,jS),(49,iR),(50,mI)],[]⟩
theorem Sm:aU TZ Qv none Tryz.f21 DZ:=by intro x;kernel_rfl
theorem Un:aB tpr 21:=ay Tryz.func21 rfl (by decide)
theorem UC:aR tpr 21 DZ:=aL Sm (.cons BH BA (.cons He GR (.cons ku kr (.cons BG Bz (.cons rG rF (.cons mX mS (.cons mw mo (.cons yC yt (.nil _))))))))) aN Tryz.func21
def MY:List (Nat×Ann):=[(7,⟨[(4,.val tI),(12,.ref 27 0),(36,.val (.slice aV)),(37,.val tI),(38,.val tI)],[(27,abW)],[],bB _⟩),
 (14,⟨[(12,.ref 27 0),(16,.own 57 wk),(53,.val (.slice cc)),(54,.val tI),(55,.val tI)],[(27,[.val .str,.val .str,.val .str,.val tI,.val tI,.val (.slice mK),.val (.slice bp),.val tI,.val tI,.val (.slice aV),.mapR 118549,.mapR 118550,.rowR 118551])],[.rowC 118551 37 lR,.mapC 118549 tI (.slice cc),.mapC 118550 tI aq],bB _⟩),
 (200007,⟨[(4,.val tI),(12,.ref 27 0)],[(27,abW)],[],fun _=>0⟩),
 (200014,⟨[(16,.own 57 wk)],[],[],fun _=>0⟩)]
def BR:aK:=⟨[.val bT,.val (.slice bp),.val aH,.val (.slice aV),.val tI],[.row 57 wk,.val tI],fun x=>rW x.1 x.2.1 x.2.2.1 x.2.2.2.1 x.2.2.2.2.1⟩
noncomputable def QH:Cx:=⟨tpr,[(30,xG),(30,As),(31,rU),(37,mH),(38,mG),(39,yR),(40,pU),(41,ir),(42,qV)],[]⟩
theorem PA:aU QH MY none Tryz.f18 BR:=by intro x;kernel_rfl
theorem Rb:aB tpr 18:=ay Tryz.func18 rfl (by decide)
theorem Rr:aR tpr 18 BR:=aL PA (.cons MM MJ (.cons PT PN (.cons Ic H9 (.cons qN qF (.cons yB yq (.cons He GR (.cons Aq Ak (.cons ku kr (.cons BG Bz (.nil _)))))))))) aN Tryz.func18
end Go.Proofs.SeatA
end
