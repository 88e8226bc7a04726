/-
  Each function that the law reaches is as its plain model says. No condition.
-/
import Derived.Test.YtnamfglkolhhgacGreatDoorYx
set_option linter.all false
set_option maxRecDepth 100000
noncomputable section
namespace Go.Proofs
abbrev tpr:=Tryz.prog
end Go.Proofs
namespace Go.Proofs.SeatU
open Go.Dn Go.Md Go.Proofs
theorem aN:Tryz.prog.follows .mixedOrders=true:=by kernel_rfl
def bg (X:Cx) (anns:List (Nat×Ann)) (ar:Option Ty) (fn:Func) (sp:aA):Prop:=∀ x,K9 X anns ar fn sp x=sp.m x
theorem aG {X:Cx} {anns:List (Nat×Ann)} {ar:Option Ty} {fn:Func} {sp:aA} (h:bg X anns ar fn sp) (hX:bS X) (hm:X.P.follows .mixedOrders=true) {f:FuncId} (hf:X.P.funcs[f]? =some fn):aD X.P f sp:=Rz hX hm sp anns ar hf fun x _ e=>(h x).trans e
def rm:aA:=⟨[.val .str],[.val .bool],fun x=>fI x.1⟩
noncomputable def J4:Cx:=⟨tpr,[(81,tg)],[]⟩
theorem Ik:bg J4 [] none Tryz.f45 rm:=by intro x;kernel_rfl
theorem BO:ax tpr 45:=av Tryz.func45 rfl (by decide)
theorem BS:aD tpr 45 rm:=aG Ik (.cons Hs GZ (.nil _)) aN Tryz.func45
def jO:aA:=⟨[.val tI,.val tI,.val tI],[.val .bool],fun x=>jM x.1 x.2.1 x.2.2.1⟩
noncomputable def H9:Cx:=⟨tpr,[],[]⟩
theorem GD:bg H9 [] none Tryz.f35 jO:=by intro x;kernel_rfl
theorem pU:ax tpr 35:=av Tryz.func35 rfl (by decide)
theorem p8:aD tpr 35 jO:=aG GD (.nil _) aN Tryz.func35
def yt:aA:=⟨[.val tI],[.val .bool],fun x=>yZ x.1⟩
noncomputable def K3:Cx:=⟨tpr,[(35,jO)],[]⟩
theorem J8:bg K3 [] none Tryz.f46 yt:=by intro x;kernel_rfl
theorem Lr:ax tpr 46:=av Tryz.func46 rfl (by decide)
theorem LM:aD tpr 46 yt:=aG J8 (.cons p8 pU (.nil _)) aN Tryz.func46
def nu:aA:=⟨[.val tI],[.val .bool],fun x=>qX x.1⟩
noncomputable def Fj:Cx:=⟨tpr,[(35,jO)],[]⟩
theorem Em:bg Fj [] none Tryz.f68 nu:=by intro x;kernel_rfl
theorem xT:ax tpr 68:=av Tryz.func68 rfl (by decide)
theorem x8:aD tpr 68 nu:=aG Em (.cons p8 pU (.nil _)) aN Tryz.func68
def qu:aA:=⟨[.val tI],[.val (.slice tI)],fun x=>tN x.1⟩
noncomputable def Ed:Cx:=⟨tpr,[],[]⟩
theorem CW:bg Ed [] none Tryz.f102 qu:=by intro x;kernel_rfl
theorem Eu:ax tpr 102:=av Tryz.func102 rfl (by decide)
theorem EC:aD tpr 102 qu:=aG CW (.nil _) aN Tryz.func102
def zX:List (Nat×Ann):=[(2,⟨[(0,.val (.slice tI)),(1,.val tI),(7,.val tI),(8,.val tI)],[],[],bC _⟩),
 (200002,⟨[],[],[],fun _=>0⟩)]
def ot:aA:=⟨[.val (.slice tI),.val tI],[.val tI],fun x=>rQ x.1 x.2.1⟩
noncomputable def B1:Cx:=⟨tpr,[],[]⟩
theorem AV:bg B1 zX none Tryz.f85 ot:=by intro x;kernel_rfl
theorem Cb:ax tpr 85:=av Tryz.func85 rfl (by decide)
theorem Ce:aD tpr 85 ot:=aG AV (.nil _) aN Tryz.func85
def iG:aA:=⟨[.val (.slice tI),.val tI],[.val .bool],fun x=>ij x.1 x.2.1⟩
noncomputable def zu:Cx:=⟨tpr,[(85,ot)],[]⟩
theorem yL:bg zu [] none Tryz.f49 iG:=by intro x;kernel_rfl
theorem qI:ax tpr 49:=av Tryz.func49 rfl (by decide)
theorem qM:aD tpr 49 iG:=aG yL (.cons Ce Cb (.nil _)) aN Tryz.func49
def E8:List (Nat×Ann):=[(2,⟨[(0,.val .str),(1,.val (.int .u8)),(2,.val (.int .u8)),(9,.val tI),(10,.val tI)],[],[],bC _⟩),
 (200002,⟨[],[],[],fun _=>0⟩)]
def uw:aA:=⟨[.val .str,.val (.int .u8),.val (.int .u8)],[.val .bool],fun x=>zD x.1 x.2.1 x.2.2.1⟩
noncomputable def H8:Cx:=⟨tpr,[],[]⟩
theorem GC:bg H8 E8 none Tryz.f97 uw:=by intro x;kernel_rfl
theorem Is:ax tpr 97:=av Tryz.func97 rfl (by decide)
theorem IK:aD tpr 97 uw:=aG GC (.nil _) aN Tryz.func97
def oE:aA:=⟨[.val .str],[.val .bool],fun x=>oV x.1⟩
noncomputable def Gv:Cx:=⟨tpr,[(97,uw)],[]⟩
theorem Fu:bg Gv [] none Tryz.f66 oE:=by intro x;kernel_rfl
theorem yW:ax tpr 66:=av Tryz.func66 rfl (by decide)
theorem ze:aD tpr 66 oE:=aG Fu (.cons IK Is (.nil _)) aN Tryz.func66
def Ea:List (Nat×Ann):=[(3,⟨[(0,.val .str),(3,.val tI),(7,.val tI),(8,.val tI)],[],[],bC _⟩),
 (200003,⟨[(3,.val tI)],[],[],fun _=>0⟩)]
def s9:aA:=⟨[.val .str],[.val .bool],fun x=>xE x.1⟩
noncomputable def Gu:Cx:=⟨tpr,[],[]⟩
theorem Fs:bg Gu Ea none Tryz.f103 s9:=by intro x;kernel_rfl
theorem GV:ax tpr 103:=av Tryz.func103 rfl (by decide)
theorem Ho:aD tpr 103 s9:=aG Fs (.nil _) aN Tryz.func103
def lJ:aA:=⟨[.val tI,.val .str],[.val .bool],fun x=>ov x.1 x.2.1⟩
noncomputable def CP:Cx:=⟨tpr,[(49,iG),(66,oE),(72,rS),(101,zh),(102,qu),(103,s9)],[]⟩
theorem B3:bg CP [] none Tryz.f73 lJ:=by intro x;kernel_rfl
theorem vm:ax tpr 73:=av Tryz.func73 rfl (by decide)
theorem vF:aD tpr 73 lJ:=aG B3 (.cons qM qI (.cons ze yW (.cons x7 xS (.cons Hp GW (.cons EC Eu (.cons Ho GV (.nil _))))))) aN Tryz.func73
def pE:aA:=⟨[.val tI,.val .str],[.val .bool,.val tI],fun x=>sL x.1 x.2.1⟩
noncomputable def CO:Cx:=⟨tpr,[(68,nu),(73,lJ)],[]⟩
theorem B2:bg CO [] none Tryz.f116 pE:=by intro x;kernel_rfl
theorem C9:ax tpr 116:=av Tryz.func116 rfl (by decide)
theorem Dq:aD tpr 116 pE:=aG B2 (.cons x8 xT (.cons vF vm (.nil _))) aN Tryz.func116
def qy:aA:=⟨[.val .str],[.val .bool],fun x=>qd x.1⟩
noncomputable def Eh:Cx:=⟨tpr,[(116,pE)],[]⟩
theorem C0:bg Eh [] none Tryz.f82 qy:=by intro x;kernel_rfl
theorem Ez:ax tpr 82:=av Tryz.func82 rfl (by decide)
theorem EG:aD tpr 82 qy:=aG C0 (.cons Dq C9 (.nil _)) aN Tryz.func82
def l6:aA:=⟨[.val dS],[.val tI],fun x=>ic x.1⟩
noncomputable def zn:Cx:=⟨tpr,[(35,jO)],[]⟩
theorem yI:bg zn [] none Tryz.f117 l6:=by intro x;kernel_rfl
theorem zC:ax tpr 117:=av Tryz.func117 rfl (by decide)
theorem zH:aD tpr 117 l6:=aG yI (.cons p8 pU (.nil _)) aN Tryz.func117
def E9:List (Nat×Ann):=[(3,⟨[(3,.val tI),(4,.val tI),(5,.val tI)],[],[],bC _⟩),
 (200003,⟨[(3,.val tI)],[],[],fun _=>0⟩)]
def ux:aA:=⟨[.val tI],[.val tI],fun x=>zI x.1⟩
noncomputable def Ia:Cx:=⟨tpr,[],[]⟩
theorem GF:bg Ia E9 none Tryz.f141 ux:=by intro x;kernel_rfl
theorem It:ax tpr 141:=av Tryz.func141 rfl (by decide)
theorem IL:aD tpr 141 ux:=aG GF (.nil _) aN Tryz.func141
def tc:aA:=⟨[.val dS,.val tI,.val tI],[.val .bool],fun x=>sY x.1 x.2.1 x.2.2.1⟩
noncomputable def Gx:Cx:=⟨tpr,[(141,ux)],[]⟩
theorem Fv:bg Gx [] none Tryz.f118 tc:=by intro x;kernel_rfl
theorem GX:ax tpr 118:=av Tryz.func118 rfl (by decide)
theorem Hq:aD tpr 118 tc:=aG Fv (.cons IL It (.nil _)) aN Tryz.func118
def iE:aA:=⟨[.val dS,.val .bool],[.val tI],fun x=>cL x.1 x.2.1⟩
noncomputable def zo:Cx:=⟨tpr,[(117,l6),(118,tc)],[]⟩
theorem yJ:bg zo [] none Tryz.f83 iE:=by intro x;kernel_rfl
theorem qG:ax tpr 83:=av Tryz.func83 rfl (by decide)
theorem qK:aD tpr 83 iE:=aG yJ (.cons zH zC (.cons Hq GX (.nil _))) aN Tryz.func83
def Gk:List (Nat×Ann):=[(3,⟨[(3,.val tI),(6,.val (.slice tI)),(7,.val tI),(8,.val tI)],[],[],bC _⟩),
 (200003,⟨[(3,.val tI)],[],[],fun _=>0⟩)]
def wE:aA:=⟨[.val (.slice tI)],[.val tI],fun x=>wV x.1⟩
noncomputable def J3:Cx:=⟨tpr,[],[]⟩
theorem Ij:bg J3 Gk none Tryz.f31 wE:=by intro x;kernel_rfl
theorem Kc:ax tpr 31:=av Tryz.func31 rfl (by decide)
theorem Ki:aD tpr 31 wE:=aG Ij (.nil _) aN Tryz.func31
def gq:aA:=⟨[.val aS,.val aS],[.val tI],fun x=>dw x.1 x.2.1⟩
noncomputable def wW:Cx:=⟨tpr,[(31,wE),(32,lM)],[]⟩
theorem wq:bg wW [] none Tryz.f52 gq:=by intro x;kernel_rfl
theorem oz:ax tpr 52:=av Tryz.func52 rfl (by decide)
theorem oA:aD tpr 52 gq:=aG wq (.cons Ki Kc (.cons vK vr (.nil _))) aN Tryz.func52
def wT:List (Nat×Ann):=[(4,⟨[(0,.val (.slice aS)),(9,.val (.slice aS)),(10,.val tI),(11,.val tI)],[],[],bC _⟩),
 (200004,⟨[],[],[],fun _=>0⟩)]
def kP:aA:=⟨[.val (.slice aS)],[.val tI],fun x=>gB x.1⟩
noncomputable def yG:Cx:=⟨tpr,[(45,rm),(52,gq),(83,iE)],[]⟩
theorem xK:bg yG wT none Tryz.f84 kP:=by intro x;kernel_rfl
theorem yM:ax tpr 84:=av Tryz.func84 rfl (by decide)
theorem yO:aD tpr 84 kP:=aG xK (.cons BS BO (.cons oA oz (.cons qK qG (.nil _)))) aN Tryz.func84
def mD:aA:=⟨[.val (.slice bp),.val tI],[.val tI],fun x=>lE x.1 x.2.1⟩
noncomputable def Aa:Cx:=⟨tpr,[(82,qy),(83,iE),(84,kP)],[]⟩
theorem zx:bg Aa [] none Tryz.f47 mD:=by intro x;kernel_rfl
theorem Ai:ax tpr 47:=av Tryz.func47 rfl (by decide)
theorem Ao:aD tpr 47 mD:=aG zx (.cons EG Ez (.cons qK qG (.cons yO yM (.nil _)))) aN Tryz.func47
def nw:aA:=⟨[.val bp,.val .str],[.val tI],fun x=>qs x.1 x.2.1⟩
noncomputable def AS:Cx:=⟨tpr,[(32,lM)],[]⟩
theorem Ad:bg AS [] none Tryz.f40 nw:=by intro x;kernel_rfl
theorem A5:ax tpr 40:=av Tryz.func40 rfl (by decide)
theorem Bk:aD tpr 40 nw:=aG Ad (.cons vK vr (.nil _)) aN Tryz.func40
def kK:List (Nat×Ann):=[(3,⟨[(0,.val (.slice bp)),(1,.val .str),(2,.val (.clo 40 .unit)),(8,.val tI),(9,.val tI),(10,.val tI)],[],[],bC _⟩),
 (200003,⟨[(0,.val (.slice bp)),(1,.val .str),(2,.val (.clo 40 .unit)),(8,.val tI),(9,.val tI)],[],[],fun _=>0⟩)]
def dz:aA:=⟨[.val (.slice bp),.val .str,.val (.clo 40 .unit)],[.val tI,.val .bool],fun x=>cn x.1 x.2.1 x.2.2.1⟩
noncomputable def lT:Cx:=⟨tpr,[(40,nw)],[]⟩
theorem lg:bg lT kK none Tryz.f39 dz:=by intro x;kernel_rfl
theorem lU:ax tpr 39:=av Tryz.func39 rfl (by decide)
theorem lX:aD tpr 39 dz:=aG lg (.cons Bk A5 (.nil _)) aN Tryz.func39
def dL:aA:=⟨[.val bG,.val .str],[.val tI,.val .bool],fun x=>b9 x.1 x.2.1⟩
noncomputable def CR:Cx:=⟨tpr,[(39,dz)],[]⟩
theorem B5:bg CR [] none Tryz.f16 dL:=by intro x;kernel_rfl
theorem fW:ax tpr 16:=av Tryz.func16 rfl (by decide)
theorem gf:aD tpr 16 dL:=aG B5 (.cons lX lU (.nil _)) aN Tryz.func16
end Go.Proofs.SeatU
end
