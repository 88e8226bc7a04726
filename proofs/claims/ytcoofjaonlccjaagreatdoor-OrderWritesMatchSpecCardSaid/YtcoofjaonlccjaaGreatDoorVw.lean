/-
  Each function that the law reaches is as its plain model says. No condition.
-/
import Derived.Test.YtcoofjaonlccjaaGreatDoorVv
set_option linter.all false
set_option maxRecDepth 100000
namespace Go.Proofs.SeatA
open Go.Dn Go.Md Go.Proofs
def IX:List CK:=[.val .bool,.own 163 (.int .u32)]
def Ca:List CK:=[.val .bool,.val (.slice (.int .u32))]
def VP:List CK:=[.val .bool,.val .bool,.val .bool,.val .bool,.val .bool,.val .bool]
def RP:List CK:=[.val .str,.val .str,.val .str,.val tI,.val tI,.val (.slice gx),.val (.slice av),.map tI .hnd,.own 44 au,.own 137 cG,.val tI]
def VQ:List CK:=[.val .str,.val .str,.val .str,.val tI,.val tI,.val (.slice gx),.val (.slice av),.mapR 10,.own 44 au,.own 137 cG,.val tI]
def VR:List CK:=[.val .str,.val .str,.val .str,.val tI,.val tI,.val (.slice gx),.val (.slice av),.mapR 10250003,.rowR 10250004,.rowR 10250005,.val tI]
def IY:List CK:=[.val tI,.val tI,.val tI,.val tI,.val tI,.val .str,.val tI,.val tI,.val .str,.val tI,.val tI,.val tI,.val tI]
def Fh:List CK:=[.val tI,.val tI]
def Dw:List (Nat×Ann):=[]
noncomputable def ku:az:=⟨[.val .str],[.val .bool],fun x=>eG x.1⟩
noncomputable def HV:Cx:=⟨Tryz.prog,[(71,xQ)],[]⟩
theorem OM:∀ x,aO HV Dw none Tryz.f36 ku x=ku.m x:=by intro x;kernel_rfl
theorem AL:aq Tryz.prog 36:=an (fn:=Tryz.f36) (by kernel_rfl) rfl (by decide)
theorem AO:aF Tryz.prog 36 ku:=aA (X:=HV) (.cons N5 NN (.nil _)) (by kernel_rfl) ku Dw none (by kernel_rfl) (fun x y h=>(OM x).trans h)
def B1:List (Nat×Ann):=[]
noncomputable def ep:az:=⟨[.val tI,.val tI,.val tI],[.val .bool],fun x=>dF x.1 x.2.1 x.2.2.1⟩
noncomputable def Fq:Cx:=⟨Tryz.prog,[],[]⟩
theorem No:∀ x,aO Fq B1 none Tryz.f38 ep x=ep.m x:=by intro x;kernel_rfl
theorem lg:aq Tryz.prog 38:=an (fn:=Tryz.f38) (by kernel_rfl) rfl (by decide)
theorem lp:aF Tryz.prog 38 ep:=aA (X:=Fq) (.nil _) (by kernel_rfl) ep B1 none (by kernel_rfl) (fun x y h=>(No x).trans h)
def E1:List (Nat×Ann):=[]
noncomputable def iB:az:=⟨[.val tI],[.val .bool],fun x=>mS x.1⟩
noncomputable def I4:Cx:=⟨Tryz.prog,[(38,ep)],[]⟩
theorem QI:∀ x,aO I4 E1 none Tryz.f37 iB x=iB.m x:=by intro x;kernel_rfl
theorem rQ:aq Tryz.prog 37:=an (fn:=Tryz.f37) (by kernel_rfl) rfl (by decide)
theorem rX:aF Tryz.prog 37 iB:=aA (X:=I4) (.cons lp lg (.nil _)) (by kernel_rfl) iB E1 none (by kernel_rfl) (fun x y h=>(QI x).trans h)
def rF:List (Nat×Ann):=[]
noncomputable def eo:az:=⟨[.val au],[.val tI],fun x=>fP x.1⟩
noncomputable def tY:Cx:=⟨Tryz.prog,[(38,ep)],[]⟩
theorem Dk:∀ x,aO tY rF none Tryz.f116 eo x=eo.m x:=by intro x;kernel_rfl
theorem uk:aq Tryz.prog 116:=an (fn:=Tryz.f116) (by kernel_rfl) rfl (by decide)
theorem uz:aF Tryz.prog 116 eo:=aA (X:=tY) (.cons lp lg (.nil _)) (by kernel_rfl) eo rF none (by kernel_rfl) (fun x y h=>(Dk x).trans h)
def B3:List (Nat×Ann):=[(3,⟨[(3,.val tI),(4,.val tI),(5,.val tI)],[],[],bq _⟩),
 (200003,⟨[(3,.val tI)],[],[],fun _=>0⟩)]
noncomputable def lz:az:=⟨[.val tI],[.val tI],fun x=>zi x.1⟩
noncomputable def Ft:Cx:=⟨Tryz.prog,[],[]⟩
theorem Nq:∀ x,aO Ft B3 none Tryz.f130 lz x=lz.m x:=by intro x;kernel_rfl
theorem FN:aq Tryz.prog 130:=an (fn:=Tryz.f130) (by kernel_rfl) rfl (by decide)
theorem FW:aF Tryz.prog 130 lz:=aA (X:=Ft) (.nil _) (by kernel_rfl) lz B3 none (by kernel_rfl) (fun x y h=>(Nq x).trans h)
def A0:List (Nat×Ann):=[]
noncomputable def jZ:az:=⟨[.val au,.val tI,.val tI],[.val .bool],fun x=>oA x.1 x.2.1 x.2.2.1⟩
noncomputable def DJ:Cx:=⟨Tryz.prog,[(130,lz)],[]⟩
theorem Ml:∀ x,aO DJ A0 none Tryz.f117 jZ x=jZ.m x:=by intro x;kernel_rfl
theorem DU:aq Tryz.prog 117:=an (fn:=Tryz.f117) (by kernel_rfl) rfl (by decide)
theorem DZ:aF Tryz.prog 117 jZ:=aA (X:=DJ) (.cons FW FN (.nil _)) (by kernel_rfl) jZ A0 none (by kernel_rfl) (fun x y h=>(Ml x).trans h)
def rG:List (Nat×Ann):=[]
noncomputable def er:az:=⟨[.val au,.val .bool],[.val tI],fun x=>iQ x.1 x.2.1⟩
noncomputable def tZ:Cx:=⟨Tryz.prog,[(116,eo),(117,jZ)],[]⟩
theorem Dl:∀ x,aO tZ rG none Tryz.f72 er x=er.m x:=by intro x;kernel_rfl
theorem ux:aq Tryz.prog 72:=an (fn:=Tryz.f72) (by kernel_rfl) rfl (by decide)
theorem uF:aF Tryz.prog 72 er:=aA (X:=tZ) (.cons uz uk (.cons DZ DU (.nil _))) (by kernel_rfl) er rG none (by kernel_rfl) (fun x y h=>(Dl x).trans h)
def vP:List (Nat×Ann):=[]
noncomputable def fS:az:=⟨[.val au],[.val tI],fun x=>lG x.1⟩
noncomputable def yb:Cx:=⟨Tryz.prog,[(116,eo),(117,jZ)],[]⟩
theorem Gt:∀ x,aO yb vP none Tryz.f73 fS x=fS.m x:=by intro x;kernel_rfl
theorem yg:aq Tryz.prog 73:=an (fn:=Tryz.f73) (by kernel_rfl) rfl (by decide)
theorem yj:aF Tryz.prog 73 fS:=aA (X:=yb) (.cons uz uk (.cons DZ DU (.nil _))) (by kernel_rfl) fS vP none (by kernel_rfl) (fun x y h=>(Gt x).trans h)
def wH:List (Nat×Ann):=[(300004,⟨[(17,.val .bool)],[],[],fun _=>0⟩)]
noncomputable def jw:az:=⟨[.val bu,.val tI],[.val tI],fun x=>q7 x.1 x.2.1⟩
noncomputable def zR:Cx:=⟨Tryz.prog,[(36,ku),(38,ep),(72,er),(73,fS)],[]⟩
theorem Iv:∀ x,aO zR wH none Tryz.f39 jw x=jw.m x:=by intro x;kernel_rfl
theorem Jy:aq Tryz.prog 39:=an (fn:=Tryz.f39) (by kernel_rfl) rfl (by decide)
theorem JY:aF Tryz.prog 39 jw:=aA (X:=zR) (.cons AO AL (.cons lp lg (.cons uF ux (.cons yj yg (.nil _))))) (by kernel_rfl) jw wH none (by kernel_rfl) (fun x y h=>(Iv x).trans h)
def vO:List (Nat×Ann):=[(12,⟨[(1,.ref 1 0),(50,.val tI),(51,.val tI)],[(1,[.val .str,.val .str,.val .str,.val tI,.val tI,.val (.slice gx)])],[],bq _⟩),
 (200012,⟨[],[],[],fun _=>0⟩)]
noncomputable def iS:az:=⟨[.val bu],[.val tI],fun x=>pI x.1⟩
noncomputable def ya:Cx:=⟨Tryz.prog,[(36,ku),(37,iB),(38,ep),(39,jw)],[]⟩
theorem Gs:∀ x,aO ya vO none Tryz.f11 iS x=iS.m x:=by intro x;kernel_rfl
theorem IC:aq Tryz.prog 11:=an (fn:=Tryz.f11) (by kernel_rfl) rfl (by decide)
theorem IE:aF Tryz.prog 11 iS:=aA (X:=ya) (.cons AO AL (.cons rX rQ (.cons lp lg (.cons JY Jy (.nil _))))) (by kernel_rfl) iS vO none (by kernel_rfl) (fun x y h=>(Gs x).trans h)
def wF:List (Nat×Ann):=[]
noncomputable def gP:az:=⟨[.val tI],[.val .bool],fun x=>mX x.1⟩
noncomputable def zP:Cx:=⟨Tryz.prog,[],[]⟩
theorem It:∀ x,aO zP wF none Tryz.f78 gP x=gP.m x:=by intro x;kernel_rfl
theorem z8:aq Tryz.prog 78:=an (fn:=Tryz.f78) (by kernel_rfl) rfl (by decide)
theorem Aj:aF Tryz.prog 78 gP:=aA (X:=zP) (.nil _) (by kernel_rfl) gP wF none (by kernel_rfl) (fun x y h=>(It x).trans h)
def AZ:List (Nat×Ann):=[]
noncomputable def jY:az:=⟨[.val tI],[.val SS],fun x=>se x.1⟩
noncomputable def DI:Cx:=⟨Tryz.prog,[],[]⟩
theorem Mk:∀ x,aO DI AZ none Tryz.f63 jY x=jY.m x:=by intro x;kernel_rfl
theorem DT:aq Tryz.prog 63:=an (fn:=Tryz.f63) (by kernel_rfl) rfl (by decide)
theorem DY:aF Tryz.prog 63 jY:=aA (X:=DI) (.nil _) (by kernel_rfl) jY AZ none (by kernel_rfl) (fun x y h=>(Mk x).trans h)
def wJ:List (Nat×Ann):=[(100003,⟨[(1,.ref 1 0),(3,.ref 3 0)],[(1,IY),(3,VP)],[],fun _=>0⟩),
 (100007,⟨[(1,.ref 1 0),(3,.ref 3 0)],[(1,IY),(3,VP)],[],fun _=>0⟩),
 (300011,⟨[(30,.val .bool)],[],[],fun _=>0⟩),
 (300013,⟨[(39,.val .bool)],[],[],fun _=>0⟩),
 (300015,⟨[(58,.val .bool)],[],[],fun _=>0⟩),
 (300017,⟨[(66,.val .bool)],[],[],fun _=>0⟩)]
noncomputable def jx:az:=⟨[.val av],[.val tI],fun x=>rf x.1⟩
noncomputable def zT:Cx:=⟨Tryz.prog,[(36,ku),(37,iB),(38,ep),(63,jY),(72,er),(73,fS)],[]⟩
theorem Ix:∀ x,aO zT wJ none Tryz.f79 jx x=jx.m x:=by intro x;kernel_rfl
theorem Jz:aq Tryz.prog 79:=an (fn:=Tryz.f79) (by kernel_rfl) rfl (by decide)
theorem JZ:aF Tryz.prog 79 jx:=aA (X:=zT) (.cons AO AL (.cons rX rQ (.cons lp lg (.cons DY DT (.cons uF ux (.cons yj yg (.nil _))))))) (by kernel_rfl) jx wJ none (by kernel_rfl) (fun x y h=>(Ix x).trans h)
def wE:List (Nat×Ann):=[]
noncomputable def jt:az:=⟨[.val av],[.val tI],fun x=>qZ x.1⟩
noncomputable def zO:Cx:=⟨Tryz.prog,[(37,iB),(38,ep),(78,gP),(79,jx)],[]⟩
theorem Is:∀ x,aO zO wE none Tryz.f44 jt x=jt.m x:=by intro x;kernel_rfl
theorem Jw:aq Tryz.prog 44:=an (fn:=Tryz.f44) (by kernel_rfl) rfl (by decide)
theorem JW:aF Tryz.prog 44 jt:=aA (X:=zO) (.cons rX rQ (.cons lp lg (.cons Aj z8 (.cons JZ Jz (.nil _))))) (by kernel_rfl) jt wE none (by kernel_rfl) (fun x y h=>(Is x).trans h)
def tC:List (Nat×Ann):=[(2,⟨[(22,.rowR 22),(23,.val tI),(24,.val tI)],[],[.rowC 22 3 tI],bq _⟩),
 (200002,⟨[],[],[],fun _=>0⟩)]
noncomputable def gN:az:=⟨[.val av,.val av],[.val tI],fun x=>jk x.1 x.2.1⟩
noncomputable def vW:Cx:=⟨Tryz.prog,[],[]⟩
theorem Ei:∀ x,aO vW tC none Tryz.f32 gN x=gN.m x:=by intro x;kernel_rfl
theorem FL:aq Tryz.prog 32:=an (fn:=Tryz.f32) (by kernel_rfl) rfl (by decide)
theorem FU:aF Tryz.prog 32 gN:=aA (X:=vW) (.nil _) (by kernel_rfl) gN tC none (by kernel_rfl) (fun x y h=>(Ei x).trans h)
def vN:List (Nat×Ann):=[(5,⟨[(0,.val (.slice av)),(3,.ref 3 0),(11,.val (.slice av)),(12,.val tI),(13,.val tI)],[(3,[.val tI,.val tI,.val tI])],[],bq _⟩),
 (200005,⟨[],[],[],fun _=>0⟩),
 (300010,⟨[(34,.val .bool)],[],[],fun _=>0⟩)]
noncomputable def eC:az:=⟨[.val (.slice av)],[.val tI],fun x=>iV x.1⟩
noncomputable def x9:Cx:=⟨Tryz.prog,[(32,gN),(44,jt)],[]⟩
theorem Gr:∀ x,aO x9 vN none Tryz.f13 eC x=eC.m x:=by intro x;kernel_rfl
theorem qM:aq Tryz.prog 13:=an (fn:=Tryz.f13) (by kernel_rfl) rfl (by decide)
theorem qN:aF Tryz.prog 13 eC:=aA (X:=x9) (.cons FU FL (.cons JW Jw (.nil _))) (by kernel_rfl) eC vN none (by kernel_rfl) (fun x y h=>(Gr x).trans h)
def zF:List (Nat×Ann):=[]
noncomputable def gD:az:=⟨[.val bu,.val (.slice av)],[.val tI],fun x=>mA x.1 x.2.1⟩
noncomputable def Ce:Cx:=⟨Tryz.prog,[(11,iS),(13,eC)],[]⟩
theorem K2:∀ x,aO Ce zF none Tryz.f49 gD x=gD.m x:=by intro x;kernel_rfl
theorem vu:aq Tryz.prog 49:=an (fn:=Tryz.f49) (by kernel_rfl) rfl (by decide)
theorem vA:aF Tryz.prog 49 gD:=aA (X:=Ce) (.cons IE IC (.cons qN qM (.nil _))) (by kernel_rfl) gD zF none (by kernel_rfl) (fun x y h=>(K2 x).trans h)
def B4:List (Nat×Ann):=[]
noncomputable def fF:az:=⟨[.val au],[.val tI],fun x=>fZ x.1⟩
noncomputable def Fu:Cx:=⟨Tryz.prog,[(130,lz)],[]⟩
theorem Nr:∀ x,aO Fu B4 none Tryz.f83 fF x=fF.m x:=by intro x;kernel_rfl
theorem oe:aq Tryz.prog 83:=an (fn:=Tryz.f83) (by kernel_rfl) rfl (by decide)
theorem ox:aF Tryz.prog 83 fF:=aA (X:=Fu) (.cons FW FN (.nil _)) (by kernel_rfl) fF B4 none (by kernel_rfl) (fun x y h=>(Nr x).trans h)
def tQ:List (Nat×Ann):=[(3,⟨[(5,.ref 12 0),(14,.val (.slice gx)),(15,.val tI),(16,.val tI)],[(12,VQ)],[.mapC 10 tI .hnd,.ar bH],bq _⟩),
 (200003,⟨[(5,.ref 12 0)],[(12,VQ)],[.mapC 10 tI .hnd,.ar bH],fun _=>0⟩)]
noncomputable def dW:az:=⟨[.val bu,.val (.slice av),.ar bH],[.box [.val bu,.val (.slice av),.map tI .hnd,.row 44 au,.row 137 cG,.val tI]],fun x=>fJ x.1 x.2.1 x.2.2.1⟩
noncomputable def wP:Cx:=⟨Tryz.prog,[(83,fF)],[]⟩
theorem FB:∀ x,aO wP tQ none Tryz.f51 dW x=dW.m x:=by intro x;kernel_rfl
theorem pG:aq Tryz.prog 51:=an (fn:=Tryz.f51) (by kernel_rfl) rfl (by decide)
theorem pH:aF Tryz.prog 51 dW:=aA (X:=wP) (.cons ox oe (.nil _)) (by kernel_rfl) dW tQ none (by kernel_rfl) (fun x y h=>(FB x).trans h)
def tD:List (Nat×Ann):=[]
noncomputable def gO:az:=⟨[.box [.val bu,.val (.slice av),.map tI .hnd,.row 44 au,.row 137 cG,.val tI],.val tI,.ar bH],[.val tI],fun x=>mW x.1 x.2.1 x.2.2.1⟩
noncomputable def vX:Cx:=⟨Tryz.prog,[],[]⟩
theorem Ej:∀ x,aO vX tD none Tryz.f131 gO x=gO.m x:=by intro x;kernel_rfl
theorem FM:aq Tryz.prog 131:=an (fn:=Tryz.f131) (by kernel_rfl) rfl (by decide)
theorem FV:aF Tryz.prog 131 gO:=aA (X:=vX) (.nil _) (by kernel_rfl) gO tD none (by kernel_rfl) (fun x y h=>(Ej x).trans h)
def rK:List (Nat×Ann):=[(300002,⟨[(27,.val .bool)],[],[],fun _=>0⟩)]
noncomputable def gm:az:=⟨[.box [.val bu,.val (.slice av),.map tI .hnd,.row 44 au,.row 137 cG,.val tI],.val .hnd,.val tI,.ar bH],[.val tI],fun x=>me x.1 x.2.1 x.2.2.1 x.2.2.2.1⟩
noncomputable def ug:Cx:=⟨Tryz.prog,[],[]⟩
theorem Dr:∀ x,aO ug rK none Tryz.f132 gm x=gm.m x:=by intro x;kernel_rfl
theorem Es:aq Tryz.prog 132:=an (fn:=Tryz.f132) (by kernel_rfl) rfl (by decide)
theorem EG:aF Tryz.prog 132 gm:=aA (X:=ug) (.nil _) (by kernel_rfl) gm rK none (by kernel_rfl) (fun x y h=>(Dr x).trans h)
def p5:List (Nat×Ann):=[]
noncomputable def fm:az:=⟨[.box [.val bu,.val (.slice av),.map tI .hnd,.row 44 au,.row 137 cG,.val tI],.val .hnd,.val av,.ar bH],[.val tI],fun x=>jP x.1 x.2.1 x.2.2.1 x.2.2.2.1⟩
noncomputable def rN:Cx:=⟨Tryz.prog,[(83,fF)],[]⟩
theorem Bn:∀ x,aO rN p5 none Tryz.f64 fm x=fm.m x:=by intro x;kernel_rfl
theorem Cu:aq Tryz.prog 64:=an (fn:=Tryz.f64) (by kernel_rfl) rfl (by decide)
theorem CL:aF Tryz.prog 64 fm:=aA (X:=rN) (.cons ox oe (.nil _)) (by kernel_rfl) fm p5 none (by kernel_rfl) (fun x y h=>(Bn x).trans h)
def wI:List (Nat×Ann):=[]
noncomputable def gQ:az:=⟨[.val .hnd,.arR bH],[.val tI],fun x=>jS x.1 x.2.1⟩
noncomputable def zS:Cx:=⟨Tryz.prog,[],[]⟩
theorem Iw:∀ x,aO zS wI none Tryz.f92 gQ x=gQ.m x:=by intro x;kernel_rfl
theorem Aa:aq Tryz.prog 92:=an (fn:=Tryz.f92) (by kernel_rfl) rfl (by decide)
theorem Ak:aF Tryz.prog 92 gQ:=aA (X:=zS) (.nil _) (by kernel_rfl) gQ wI none (by kernel_rfl) (fun x y h=>(Iw x).trans h)
def oT:List (Nat×Ann):=[]
noncomputable def eH:az:=⟨[.box [.val bu,.val (.slice av),.map tI .hnd,.row 44 au,.row 137 cG,.val tI],.val .hnd,.val av,.ar bH],[.val tI],fun x=>jf x.1 x.2.1 x.2.2.1 x.2.2.2.1⟩
noncomputable def qV:Cx:=⟨Tryz.prog,[(83,fF),(92,gQ)],[]⟩
theorem AJ:∀ x,aO qV oT none Tryz.f133 eH x=eH.m x:=by intro x;kernel_rfl
theorem Bt:aq Tryz.prog 133:=an (fn:=Tryz.f133) (by kernel_rfl) rfl (by decide)
theorem Bz:aF Tryz.prog 133 eH:=aA (X:=qV) (.cons ox oe (.cons Ak Aa (.nil _))) (by kernel_rfl) eH oT none (by kernel_rfl) (fun x y h=>(AJ x).trans h)
def rJ:List (Nat×Ann):=[]
noncomputable def gj:az:=⟨[.box [.val bu,.val (.slice av),.map tI .hnd,.row 44 au,.row 137 cG,.val tI],.val .hnd,.val av,.ar bH],[.val tI],fun x=>mc x.1 x.2.1 x.2.2.1 x.2.2.2.1⟩
noncomputable def uf:Cx:=⟨Tryz.prog,[],[]⟩
theorem Dq:∀ x,aO uf rJ none Tryz.f134 gj x=gj.m x:=by intro x;kernel_rfl
theorem Er:aq Tryz.prog 134:=an (fn:=Tryz.f134) (by kernel_rfl) rfl (by decide)
theorem EF:aF Tryz.prog 134 gj:=aA (X:=uf) (.nil _) (by kernel_rfl) gj rJ none (by kernel_rfl) (fun x y h=>(Dq x).trans h)
def rI:List (Nat×Ann):=[]
noncomputable def gi:az:=⟨[.box [.val bu,.val (.slice av),.map tI .hnd,.row 44 au,.row 137 cG,.val tI],.val .hnd,.val av,.ar bH],[.val tI],fun x=>l9 x.1 x.2.1 x.2.2.1 x.2.2.2.1⟩
noncomputable def ud:Cx:=⟨Tryz.prog,[(83,fF)],[]⟩
theorem Dp:∀ x,aO ud rI none Tryz.f135 gi x=gi.m x:=by intro x;kernel_rfl
theorem Ep:aq Tryz.prog 135:=an (fn:=Tryz.f135) (by kernel_rfl) rfl (by decide)
theorem EE:aF Tryz.prog 135 gi:=aA (X:=ud) (.cons ox oe (.nil _)) (by kernel_rfl) gi rI none (by kernel_rfl) (fun x y h=>(Dp x).trans h)
def rH:List (Nat×Ann):=[(100011,⟨[(0,.ref 2000 0),(1,.val tI),(5,.ref 5 0),(6,.val .hnd),(31,.val tI),(36,.val .bool)],[(5,IY),(2000,VR)],[.rowC 10250004 44 au,.rowC 10250005 137 cG,.mapC 10250003 tI .hnd,.ar bH],fun _=>0⟩),
 (100015,⟨[(0,.ref 2000 0),(5,.ref 5 0),(6,.val .hnd),(31,.val tI),(44,.val .bool)],[(5,IY),(2000,VR)],[.rowC 10250004 44 au,.rowC 10250005 137 cG,.mapC 10250003 tI .hnd,.ar bH],fun _=>0⟩),
 (100017,⟨[(5,.ref 5 0),(6,.val .hnd),(7,.val tI)],[(5,IY),(2000,RP)],[.ar bH],fun _=>0⟩),
 (300021,⟨[(69,.val .bool)],[],[],fun _=>0⟩)]
noncomputable def gh:az:=⟨[.box [.val bu,.val (.slice av),.map tI .hnd,.row 44 au,.row 137 cG,.val tI],.val tI,.ar bH],[.val tI],fun x=>aP x.1 x.2.1 x.2.2.1⟩
noncomputable def uc:Cx:=⟨Tryz.prog,[(64,fm),(78,gP),(83,fF),(131,gO),(132,gm),(133,eH),(134,gj),(135,gi)],[]⟩
theorem Dm:∀ x,aO uc rH none Tryz.f84 gh x=gh.m x:=by intro x;kernel_rfl
theorem Eo:aq Tryz.prog 84:=an (fn:=Tryz.f84) (by kernel_rfl) rfl (by decide)
theorem ED:aF Tryz.prog 84 gh:=aA (X:=uc) (.cons CL Cu (.cons Aj z8 (.cons ox oe (.cons FV FM (.cons EG Es (.cons Bz Bt (.cons EF Er (.cons EE Ep (.nil _))))))))) (by kernel_rfl) gh rH none (by kernel_rfl) (fun x y h=>(Dm x).trans h)
def zL:List (Nat×Ann):=[(1,⟨[(0,.val (.slice (.int .u32)))],[],[],bq _⟩),
 (200001,⟨[(0,.val (.slice (.int .u32)))],[],[],fun _=>0⟩)]
noncomputable def gE:az:=⟨[.val (.slice (.int .u32))],[.val (.slice (.int .u32))],fun x=>mI x.1⟩
noncomputable def Ck:Cx:=⟨Tryz.prog,[],[]⟩
theorem K8:∀ x,aO Ck zL none Tryz.f208 gE x=gE.m x:=by intro x;kernel_rfl
theorem vw:aq Tryz.prog 208:=an (fn:=Tryz.f208) (by kernel_rfl) rfl (by decide)
theorem vB:aF Tryz.prog 208 gE:=aA (X:=Ck) (.nil _) (by kernel_rfl) gE zL none (by kernel_rfl) (fun x y h=>(K8 x).trans h)
def DD:List (Nat×Ann):=[]
noncomputable def gw:az:=⟨[.val .bool,.val (.slice (.int .u32))],[.val cH],fun x=>gy x.1 x.2.1⟩
noncomputable def H8:Cx:=⟨Tryz.prog,[(208,gE)],[]⟩
theorem OU:∀ x,aO H8 DD none Tryz.f184 gw x=gw.m x:=by intro x;kernel_rfl
theorem qb:aq Tryz.prog 184:=an (fn:=Tryz.f184) (by kernel_rfl) rfl (by decide)
theorem qg:aF Tryz.prog 184 gw:=aA (X:=H8) (.cons vB vw (.nil _)) (by kernel_rfl) gw DD none (by kernel_rfl) (fun x y h=>(OU x).trans h)
def HU:List (Nat×Ann):=[(100003,⟨[(0,.val tI),(2,.ref 2 0),(3,.val (.int .u64))],[(2,IX)],[],fun _=>0⟩)]
noncomputable def nM:az:=⟨[.val tI],[.val cH],fun x=>sW x.1⟩
noncomputable def LJ:Cx:=⟨Tryz.prog,[(184,gw)],[]⟩
theorem R7:∀ x,aO LJ HU none Tryz.f146 nM x=nM.m x:=by intro x;kernel_rfl
theorem Ey:aq Tryz.prog 146:=an (fn:=Tryz.f146) (by kernel_rfl) rfl (by decide)
theorem EL:aF Tryz.prog 146 nM:=aA (X:=LJ) (.cons qg qb (.nil _)) (by kernel_rfl) nM HU none (by kernel_rfl) (fun x y h=>(R7 x).trans h)
def Fb:List (Nat×Ann):=[(6,⟨[(1,.val (.slice (.int .u32))),(5,.own 163 (.int .u32)),(6,.val (.int .u64)),(20,.val (.slice (.int .u32))),(21,.val tI),(22,.val tI)],[],[],bq _⟩),
 (100002,⟨[(0,.val (.slice (.int .u32))),(1,.val (.slice (.int .u32)))],[],[],fun _=>0⟩),
 (100010,⟨[(1,.val (.slice (.int .u32))),(5,.own 163 (.int .u32)),(6,.val (.int .u64)),(20,.val (.slice (.int .u32))),(21,.val tI),(22,.val tI)],[],[],fun _=>0⟩),
 (200006,⟨[(5,.own 163 (.int .u32)),(6,.val (.int .u64))],[],[],fun _=>0⟩)]
noncomputable def sL:az:=⟨[.val (.slice (.int .u32)),.val (.slice (.int .u32))],[.row 163 (.int .u32)],fun x=>Ef x.1 x.2.1⟩
noncomputable def Je:Cx:=⟨Tryz.prog,[],[]⟩
theorem QV:∀ x,aO Je Fb none Tryz.f207 sL x=sL.m x:=by intro x;kernel_rfl
theorem Sl:aq Tryz.prog 207:=an (fn:=Tryz.f207) (by kernel_rfl) rfl (by decide)
theorem SG:aF Tryz.prog 207 sL:=aA (X:=Je) (.nil _) (by kernel_rfl) sL Fb none (by kernel_rfl) (fun x y h=>(QV x).trans h)
def B8:List (Nat×Ann):=[(6,⟨[(1,.val (.slice (.int .u32))),(5,.own 163 (.int .u32)),(6,.val (.int .u64)),(20,.val (.slice (.int .u32))),(21,.val tI),(22,.val tI)],[],[],bq _⟩),
 (100002,⟨[(0,.val (.slice (.int .u32))),(1,.val (.slice (.int .u32)))],[],[],fun _=>0⟩),
 (100010,⟨[(1,.val (.slice (.int .u32))),(5,.own 163 (.int .u32)),(6,.val (.int .u64)),(20,.val (.slice (.int .u32))),(21,.val tI),(22,.val tI)],[],[],fun _=>0⟩),
 (200006,⟨[(5,.own 163 (.int .u32)),(6,.val (.int .u64))],[],[],fun _=>0⟩)]
noncomputable def oP:az:=⟨[.val (.slice (.int .u32)),.val (.slice (.int .u32))],[.val (.slice (.int .u32))],fun x=>L9 x.1 x.2.1⟩
noncomputable def Fy:Cx:=⟨Tryz.prog,[],[]⟩
theorem Nv:∀ x,aO Fy B8 none Tryz.f207 oP x=oP.m x:=by intro x;kernel_rfl
theorem O3:aq Tryz.prog 207:=an (fn:=Tryz.f207) (by kernel_rfl) rfl (by decide)
theorem Pj:aF Tryz.prog 207 oP:=aA (X:=Fy) (.nil _) (by kernel_rfl) oP B8 none (by kernel_rfl) (fun x y h=>(Nv x).trans h)
def zK:List (Nat×Ann):=[(4,⟨[(0,.val (.slice (.int .u32))),(1,.val (.slice (.int .u32))),(5,.val tI)],[],[],bq _⟩),
 (200004,⟨[],[],[],fun _=>0⟩)]
noncomputable def jb:az:=⟨[.val (.slice (.int .u32)),.val (.slice (.int .u32))],[.val tI],fun x=>qy x.1 x.2.1⟩
noncomputable def Cj:Cx:=⟨Tryz.prog,[],[]⟩
theorem K7:∀ x,aO Cj zK none Tryz.f209 jb x=jb.m x:=by intro x;kernel_rfl
theorem CB:aq Tryz.prog 209:=an (fn:=Tryz.f209) (by kernel_rfl) rfl (by decide)
theorem CR:aF Tryz.prog 209 jb:=aA (X:=Cj) (.nil _) (by kernel_rfl) jb zK none (by kernel_rfl) (fun x y h=>(K7 x).trans h)
def DC:List (Nat×Ann):=[(4,⟨[(1,.val (.slice (.int .u32))),(5,.own 163 (.int .u32)),(6,.val (.int .u64)),(13,.val (.slice (.int .u32))),(14,.val tI),(15,.val tI)],[],[],bq _⟩),
 (100008,⟨[(1,.val (.slice (.int .u32))),(5,.own 163 (.int .u32)),(9,.val (.int .u64)),(13,.val (.slice (.int .u32))),(14,.val tI),(15,.val tI)],[],[],fun _=>0⟩),
 (200004,⟨[(5,.own 163 (.int .u32))],[],[],fun _=>0⟩)]
noncomputable def mG:az:=⟨[.val (.slice (.int .u32)),.val (.slice (.int .u32))],[.val (.slice (.int .u32))],fun x=>tv x.1 x.2.1⟩
noncomputable def H7:Cx:=⟨Tryz.prog,[(208,gE)],[]⟩
theorem OS:∀ x,aO H7 DC none Tryz.f210 mG x=mG.m x:=by intro x;kernel_rfl
theorem Ie:aq Tryz.prog 210:=an (fn:=Tryz.f210) (by kernel_rfl) rfl (by decide)
theorem Ii:aF Tryz.prog 210 mG:=aA (X:=H7) (.cons vB vw (.nil _)) (by kernel_rfl) mG DC none (by kernel_rfl) (fun x y h=>(OS x).trans h)
def A5:List (Nat×Ann):=[(4,⟨[(2,.ref 2 0),(3,.ref 3 0),(4,.ref 4 0),(5,.ref 5 0),(6,.rowR 12),(7,.val (.slice (.int .u32))),(8,.val tI)],[(2,Ca),(3,Ca),(4,IX),(5,IX)],[.rowC 12 163 (.int .u32)],bq _⟩),
 (200004,⟨[(4,.ref 4 0),(5,.ref 5 0),(6,.rowR 12),(7,.val (.slice (.int .u32)))],[(4,IX),(5,IX)],[.rowC 12 163 (.int .u32)],fun _=>0⟩)]
noncomputable def nw:az:=⟨[.val cH,.val cH],[.val cH,.val cH],fun x=>sQ x.1 x.2.1⟩
noncomputable def DO:Cx:=⟨Tryz.prog,[(184,gw),(207,sL),(208,gE),(209,jb),(210,mG)],[]⟩
theorem Mq:∀ x,aO DO A5 none Tryz.f180 nw x=nw.m x:=by intro x;kernel_rfl
theorem NO:aq Tryz.prog 180:=an (fn:=Tryz.f180) (by kernel_rfl) rfl (by decide)
theorem N6:aF Tryz.prog 180 nw:=aA (X:=DO) (.cons qg qb (.cons SG Sl (.cons vB vw (.cons CR CB (.cons Ii Ie (.nil _)))))) (by kernel_rfl) nw A5 none (by kernel_rfl) (fun x y h=>(Mq x).trans h)
def x8:List (Nat×Ann):=[]
noncomputable def iI:az:=⟨[.val cH],[.val tI],fun x=>jc x.1⟩
noncomputable def Bc:Cx:=⟨Tryz.prog,[],[]⟩
theorem Jn:∀ x,aO Bc x8 none Tryz.f181 iI x=iI.m x:=by intro x;kernel_rfl
theorem Bf:aq Tryz.prog 181:=an (fn:=Tryz.f181) (by kernel_rfl) rfl (by decide)
theorem Bh:aF Tryz.prog 181 iI:=aA (X:=Bc) (.nil _) (by kernel_rfl) iI x8 none (by kernel_rfl) (fun x y h=>(Jn x).trans h)
def wM:List (Nat×Ann):=[]
noncomputable def gU:az:=⟨[.val cH],[.val cH],fun x=>nx x.1⟩
noncomputable def zW:Cx:=⟨Tryz.prog,[(184,gw)],[]⟩
theorem IA:∀ x,aO zW wM none Tryz.f182 gU x=gU.m x:=by intro x;kernel_rfl
theorem Ad:aq Tryz.prog 182:=an (fn:=Tryz.f182) (by kernel_rfl) rfl (by decide)
theorem An:aF Tryz.prog 182 gU:=aA (X:=zW) (.cons qg qb (.nil _)) (by kernel_rfl) gU wM none (by kernel_rfl) (fun x y h=>(IA x).trans h)
def zJ:List (Nat×Ann):=[(5,⟨[(1,.val tI),(2,.ref 2 0),(6,.val (.int .u64)),(14,.val (.slice (.int .u32))),(15,.val tI),(16,.val tI)],[(2,Ca)],[],bq _⟩),
 (200005,⟨[(1,.val tI),(2,.ref 2 0),(6,.val (.int .u64))],[(2,Ca)],[],fun _=>0⟩)]
noncomputable def lT:az:=⟨[.val cH,.val tI],[.val tI,.val .bool],fun x=>vo x.1 x.2.1⟩
noncomputable def Ci:Cx:=⟨Tryz.prog,[],[]⟩
theorem K6:∀ x,aO Ci zJ none Tryz.f211 lT x=lT.m x:=by intro x;kernel_rfl
theorem MB:aq Tryz.prog 211:=an (fn:=Tryz.f211) (by kernel_rfl) rfl (by decide)
theorem MI:aF Tryz.prog 211 lT:=aA (X:=Ci) (.nil _) (by kernel_rfl) lT zJ none (by kernel_rfl) (fun x y h=>(K6 x).trans h)
def BY:List (Nat×Ann):=[]
noncomputable def lu:az:=⟨[.val cH,.val tI],[.val au,.val tI],fun x=>nA x.1 x.2.1⟩
noncomputable def Fm:Cx:=⟨Tryz.prog,[(211,lT)],[]⟩
theorem Nk:∀ x,aO Fm BY none Tryz.f183 lu x=lu.m x:=by intro x;kernel_rfl
theorem FK:aq Tryz.prog 183:=an (fn:=Tryz.f183) (by kernel_rfl) rfl (by decide)
theorem FT:aF Tryz.prog 183 lu:=aA (X:=Fm) (.cons MI MB (.nil _)) (by kernel_rfl) lu BY none (by kernel_rfl) (fun x y h=>(Nk x).trans h)
def zC:List (Nat×Ann):=[(2,⟨[(1,.val tI),(2,.ref 2 0),(4,.ref 4 0),(6,.ref 6 0)],[(2,Ca),(4,Fh),(6,Ca)],[],bq _⟩),
 (200002,⟨[(1,.val tI),(2,.ref 2 0),(4,.ref 4 0)],[(2,Ca),(4,Fh)],[],fun _=>0⟩)]
noncomputable def lP:az:=⟨[.val cH,.val tI],[.val au,.val tI],fun x=>uX x.1 x.2.1⟩
noncomputable def Cc:Cx:=⟨Tryz.prog,[(146,nM),(180,nw),(181,iI),(182,gU),(183,lu)],[]⟩
theorem K0:∀ x,aO Cc zC none Tryz.f145 lP x=lP.m x:=by intro x;kernel_rfl
theorem My:aq Tryz.prog 145:=an (fn:=Tryz.f145) (by kernel_rfl) rfl (by decide)
theorem MF:aF Tryz.prog 145 lP:=aA (X:=Cc) (.cons EL Ey (.cons N6 NO (.cons Bh Bf (.cons An Ad (.cons FT FK (.nil _)))))) (by kernel_rfl) lP zC none (by kernel_rfl) (fun x y h=>(K0 x).trans h)
def Dz:List (Nat×Ann):=[]
noncomputable def qv:az:=⟨[.val tI],[.val au],fun x=>mZ x.1⟩
noncomputable def HY:Cx:=⟨Tryz.prog,[(145,lP),(146,nM)],[]⟩
theorem OP:∀ x,aO HY Dz none Tryz.f90 qv x=qv.m x:=by intro x;kernel_rfl
theorem QZ:aq Tryz.prog 90:=an (fn:=Tryz.f90) (by kernel_rfl) rfl (by decide)
theorem Q7:aF Tryz.prog 90 qv:=aA (X:=HY) (.cons MF My (.cons EL Ey (.nil _))) (by kernel_rfl) qv Dz none (by kernel_rfl) (fun x y h=>(OP x).trans h)
def AW:List (Nat×Ann):=[(1,⟨[(1,.ref 1 0),(2,.ref 2 0)],[(1,Fh),(2,Fh)],[],bq _⟩),
 (200001,⟨[(1,.ref 1 0),(2,.ref 2 0)],[(1,Fh),(2,Fh)],[],fun _=>0⟩),
 (300001,⟨[(11,.val .bool)],[],[],fun _=>0⟩)]
noncomputable def nk:az:=⟨[.val au],[.val au],fun x=>wB x.1⟩
noncomputable def DF:Cx:=⟨Tryz.prog,[],[]⟩
theorem Mh:∀ x,aO DF AW none Tryz.f91 nk x=nk.m x:=by intro x;kernel_rfl
theorem NH:aq Tryz.prog 91:=an (fn:=Tryz.f91) (by kernel_rfl) rfl (by decide)
theorem NZ:aF Tryz.prog 91 nk:=aA (X:=DF) (.nil _) (by kernel_rfl) nk AW none (by kernel_rfl) (fun x y h=>(Mh x).trans h)
def vQ:List (Nat×Ann):=[]
noncomputable def iT:az:=⟨[.val .hnd,.arR bH],[.val nN],fun x=>pJ x.1 x.2.1⟩
noncomputable def yc:Cx:=⟨Tryz.prog,[(90,qv),(91,nk),(92,gQ)],[]⟩
theorem Gu:∀ x,aO yc vQ none Tryz.f57 iT x=iT.m x:=by intro x;kernel_rfl
theorem ID:aq Tryz.prog 57:=an (fn:=Tryz.f57) (by kernel_rfl) rfl (by decide)
theorem IF:aF Tryz.prog 57 iT:=aA (X:=yc) (.cons Q7 QZ (.cons NZ NH (.cons Ak Aa (.nil _)))) (by kernel_rfl) iT vQ none (by kernel_rfl) (fun x y h=>(Gu x).trans h)
def tE:List (Nat×Ann):=[(1,⟨[(0,.ref 2000 0),(1,.val tI),(10,.val (.slice av)),(11,.val tI),(12,.val tI)],[(2000,RP)],[.ar bH],bq _⟩),
 (200001,⟨[],[(2000,RP)],[.ar bH],fun _=>0⟩)]
noncomputable def dO:az:=⟨[.box [.val bu,.val (.slice av),.map tI .hnd,.row 44 au,.row 137 cG,.val tI],.val tI,.ar bH],[],fun x=>eY x.1 x.2.1 x.2.2.1⟩
noncomputable def vY:Cx:=⟨Tryz.prog,[(57,iT),(84,gh)],[]⟩
theorem Ek:∀ x,aO vY tE none Tryz.f52 dO x=dO.m x:=by intro x;kernel_rfl
theorem oc:aq Tryz.prog 52:=an (fn:=Tryz.f52) (by kernel_rfl) rfl (by decide)
theorem ov:aF Tryz.prog 52 dO:=aA (X:=vY) (.cons IF ID (.cons ED Eo (.nil _))) (by kernel_rfl) dO tE none (by kernel_rfl) (fun x y h=>(Ek x).trans h)
def HJ:List (Nat×Ann):=[]
noncomputable def uN:az:=⟨[.val bu,.val (.slice av),.val tI,.ar bH],[.box [.val bu,.val (.slice av),.map tI .hnd,.row 44 au,.row 137 cG,.val tI],.val tI],fun x=>Hi x.1 x.2.1 x.2.2.1 x.2.2.2.1⟩
noncomputable def Lv:Cx:=⟨Tryz.prog,[(37,iB),(49,gD),(51,dW),(52,dO)],[]⟩
theorem RV:∀ x,aO Lv HJ none Tryz.f55 uN x=uN.m x:=by intro x;kernel_rfl
theorem Tp:aq Tryz.prog 55:=an (fn:=Tryz.f55) (by kernel_rfl) rfl (by decide)
theorem TE:aF Tryz.prog 55 uN:=aA (X:=Lv) (.cons rX rQ (.cons vA vu (.cons pH pG (.cons ov oc (.nil _))))) (by kernel_rfl) uN HJ none (by kernel_rfl) (fun x y h=>(RV x).trans h)
def Dy:List (Nat×Ann):=[]
noncomputable def qu:az:=⟨[.val bu,.val (.slice av),.val tI,.ar bH],[.val .hnd,.val tI],fun x=>BB x.1 x.2.1 x.2.2.1 x.2.2.2.1⟩
noncomputable def HX:Cx:=⟨Tryz.prog,[(37,iB),(49,gD),(51,dW),(52,dO)],[]⟩
theorem OO:∀ x,aO HX Dy none Tryz.f55 qu x=qu.m x:=by intro x;kernel_rfl
theorem QY:aq Tryz.prog 55:=an (fn:=Tryz.f55) (by kernel_rfl) rfl (by decide)
theorem Q6:aF Tryz.prog 55 qu:=aA (X:=HX) (.cons rX rQ (.cons vA vu (.cons pH pG (.cons ov oc (.nil _))))) (by kernel_rfl) qu Dy none (by kernel_rfl) (fun x y h=>(OO x).trans h)
end Go.Proofs.SeatA
