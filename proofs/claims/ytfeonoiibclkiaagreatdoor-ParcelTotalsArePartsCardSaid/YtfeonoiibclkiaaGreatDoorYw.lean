/-
  Each function that the law reaches is as its plain model says. No condition.
-/
import Derived.Test.YtfeonoiibclkiaaGreatDoorYv
set_option linter.all false
set_option maxRecDepth 100000
noncomputable section
namespace Go.Proofs
abbrev tpr:=Tryz.prog
end Go.Proofs
namespace Go.Proofs.SeatU
open Go.Dn Go.Md Go.Proofs
theorem aJ:Tryz.prog.follows .mixedOrders=true:=by kernel_rfl
def aW (X:Cx) (anns:List (Nat×Ann)) (ar:Option Ty) (fn:Func) (sp:aA):Prop:=∀ x,Kr X anns ar fn sp x=sp.m x
theorem aH {X:Cx} {anns:List (Nat×Ann)} {ar:Option Ty} {fn:Func} {sp:aA} (h:aW X anns ar fn sp) (hX:bR X) (hm:X.P.follows .mixedOrders=true) {f:FuncId} (hf:X.P.funcs[f]? =some fn):aG X.P f sp:=Re hX hm sp anns ar hf fun x _ e=>(h x).trans e
def zg:List CK:=[.val .str,.val .str,.val tI,.val (.slice bQ)]
def qy:aA:=⟨[.val .str],[.val .bool],fun x=>eL x.1⟩
noncomputable def Jq:Cx:=⟨tpr,[(83,sr)],[]⟩
theorem Hh:aW Jq [] none Tryz.f49 qy:=by intro x;kernel_rfl
theorem A8:av tpr 49:=aq Tryz.func49 rfl (by decide)
theorem Bf:aG tpr 49 qy:=aH Hh (.cons Gn F8 (.nil _)) aJ Tryz.func49
def iK:aA:=⟨[.val tI,.val tI,.val tI],[.val .bool],fun x=>iJ x.1 x.2.1 x.2.2.1⟩
noncomputable def G5:Cx:=⟨tpr,[],[]⟩
theorem FN:aW G5 [] none Tryz.f39 iK:=by intro x;kernel_rfl
theorem oE:av tpr 39:=aq Tryz.func39 rfl (by decide)
theorem oJ:aG tpr 39 iK:=aH FN (.nil _) aJ Tryz.func39
def xB:aA:=⟨[.val tI],[.val .bool],fun x=>yl x.1⟩
noncomputable def Km:Cx:=⟨tpr,[(39,iK)],[]⟩
theorem Jv:aW Km [] none Tryz.f50 xB:=by intro x;kernel_rfl
theorem KG:av tpr 50:=aq Tryz.func50 rfl (by decide)
theorem K4:aG tpr 50 xB:=aH Jv (.cons oJ oE (.nil _)) aJ Tryz.func50
def mh:aA:=⟨[.val tI],[.val .bool],fun x=>qb x.1⟩
noncomputable def EA:Cx:=⟨tpr,[(39,iK)],[]⟩
theorem DD:aW EA [] none Tryz.f66 mh:=by intro x;kernel_rfl
theorem wP:av tpr 66:=aq Tryz.func66 rfl (by decide)
theorem wX:aG tpr 66 mh:=aH DD (.cons oJ oE (.nil _)) aJ Tryz.func66
def pg:aA:=⟨[.val tI],[.val (.slice tI)],fun x=>sE x.1⟩
noncomputable def Du:Cx:=⟨tpr,[],[]⟩
theorem Ca:aW Du [] none Tryz.f101 pg:=by intro x;kernel_rfl
theorem DK:av tpr 101:=aq Tryz.func101 rfl (by decide)
theorem DS:aG tpr 101 pg:=aH Ca (.nil _) aJ Tryz.func101
def za:List (Nat×Ann):=[(2,⟨[(0,.val (.slice tI)),(1,.val tI),(7,.val tI),(8,.val tI)],[],[],bz _⟩),
 (200002,⟨[],[],[],fun _=>0⟩)]
def nw:aA:=⟨[.val (.slice tI),.val tI],[.val tI],fun x=>qT x.1 x.2.1⟩
noncomputable def Br:Cx:=⟨tpr,[],[]⟩
theorem Af:aW Br za none Tryz.f81 nw:=by intro x;kernel_rfl
theorem BB:av tpr 81:=aq Tryz.func81 rfl (by decide)
theorem BE:aG tpr 81 nw:=aH Af (.nil _) aJ Tryz.func81
def gA:aA:=⟨[.val (.slice tI),.val tI],[.val .bool],fun x=>gf x.1 x.2.1⟩
noncomputable def yC:Cx:=⟨tpr,[(81,nw)],[]⟩
theorem xV:aW yC [] none Tryz.f46 gA:=by intro x;kernel_rfl
theorem pQ:av tpr 46:=aq Tryz.func46 rfl (by decide)
theorem pS:aG tpr 46 gA:=aH xV (.cons BE BB (.nil _)) aJ Tryz.func46
def Eo:List (Nat×Ann):=[(2,⟨[(0,.val .str),(1,.val (.int .u8)),(2,.val (.int .u8)),(9,.val tI),(10,.val tI)],[],[],bz _⟩),
 (200002,⟨[],[],[],fun _=>0⟩)]
def s7:aA:=⟨[.val .str,.val (.int .u8),.val (.int .u8)],[.val .bool],fun x=>yK x.1 x.2.1 x.2.2.1⟩
noncomputable def GZ:Cx:=⟨tpr,[],[]⟩
theorem FM:aW GZ Eo none Tryz.f96 s7:=by intro x;kernel_rfl
theorem Hu:av tpr 96:=aq Tryz.func96 rfl (by decide)
theorem HN:aG tpr 96 s7:=aH FM (.nil _) aJ Tryz.func96
def nD:aA:=⟨[.val .str],[.val .bool],fun x=>nR x.1⟩
noncomputable def FI:Cx:=⟨tpr,[(96,s7)],[]⟩
theorem EI:aW FI [] none Tryz.f64 nD:=by intro x;kernel_rfl
theorem yg:av tpr 64:=aq Tryz.func64 rfl (by decide)
theorem yo:aG tpr 64 nD:=aH EI (.cons HN Hu (.nil _)) aJ Tryz.func64
def Ds:List (Nat×Ann):=[(3,⟨[(0,.val .str),(3,.val tI),(7,.val tI),(8,.val tI)],[],[],bz _⟩),
 (200003,⟨[(3,.val tI)],[],[],fun _=>0⟩)]
def si:aA:=⟨[.val .str],[.val .bool],fun x=>wB x.1⟩
noncomputable def FH:Cx:=⟨tpr,[],[]⟩
theorem EH:aW FH Ds none Tryz.f102 si:=by intro x;kernel_rfl
theorem F5:av tpr 102:=aq Tryz.func102 rfl (by decide)
theorem Gk:aG tpr 102 si:=aH EH (.nil _) aJ Tryz.func102
def kg:aA:=⟨[.val tI,.val .str],[.val .bool],fun x=>nA x.1 x.2.1⟩
noncomputable def B5:Cx:=⟨tpr,[(46,gA),(64,nD),(70,qW),(100,yw),(101,pg),(102,si)],[]⟩
theorem Bu:aW B5 [] none Tryz.f71 kg:=by intro x;kernel_rfl
theorem uu:av tpr 71:=aq Tryz.func71 rfl (by decide)
theorem uG:aG tpr 71 kg:=aH Bu (.cons pS pQ (.cons yo yg (.cons wW wO (.cons Gl F6 (.cons DS DK (.cons Gk F5 (.nil _))))))) aJ Tryz.func71
def oc:aA:=⟨[.val tI,.val .str],[.val .bool,.val tI],fun x=>rF x.1 x.2.1⟩
noncomputable def B4:Cx:=⟨tpr,[(66,mh),(71,kg)],[]⟩
theorem Bt:aW B4 [] none Tryz.f115 oc:=by intro x;kernel_rfl
theorem Cm:av tpr 115:=aq Tryz.func115 rfl (by decide)
theorem Cz:aG tpr 115 oc:=aH Bt (.cons wX wP (.cons uG uu (.nil _))) aJ Tryz.func115
def pE:aA:=⟨[.val .str],[.val .bool],fun x=>oO x.1⟩
noncomputable def Dy:Cx:=⟨tpr,[(115,oc)],[]⟩
theorem Ce:aW Dy [] none Tryz.f84 pE:=by intro x;kernel_rfl
theorem DO:av tpr 84:=aq Tryz.func84 rfl (by decide)
theorem DW:aG tpr 84 pE:=aH Ce (.cons Cz Cm (.nil _)) aJ Tryz.func84
def kK:aA:=⟨[.val cL],[.val tI],fun x=>gd x.1⟩
noncomputable def yA:Cx:=⟨tpr,[(39,iK)],[]⟩
theorem xT:aW yA [] none Tryz.f116 kK:=by intro x;kernel_rfl
theorem yH:av tpr 116:=aq Tryz.func116 rfl (by decide)
theorem yN:aG tpr 116 kK:=aH xT (.cons oJ oE (.nil _)) aJ Tryz.func116
def Ep:List (Nat×Ann):=[(3,⟨[(3,.val tI),(4,.val tI),(5,.val tI)],[],[],bz _⟩),
 (200003,⟨[(3,.val tI)],[],[],fun _=>0⟩)]
def s8:aA:=⟨[.val tI],[.val tI],fun x=>yP x.1⟩
noncomputable def G6:Cx:=⟨tpr,[],[]⟩
theorem FO:aW G6 Ep none Tryz.f141 s8:=by intro x;kernel_rfl
theorem Hv:av tpr 141:=aq Tryz.func141 rfl (by decide)
theorem HO:aG tpr 141 s8:=aH FO (.nil _) aJ Tryz.func141
def sj:aA:=⟨[.val cL,.val tI,.val tI],[.val .bool],fun x=>rS x.1 x.2.1 x.2.2.1⟩
noncomputable def FJ:Cx:=⟨tpr,[(141,s8)],[]⟩
theorem EJ:aW FJ [] none Tryz.f117 sj:=by intro x;kernel_rfl
theorem F7:av tpr 117:=aq Tryz.func117 rfl (by decide)
theorem Gm:aG tpr 117 sj:=aH EJ (.cons HO Hv (.nil _)) aJ Tryz.func117
def gz:aA:=⟨[.val cL,.val .bool],[.val tI],fun x=>cu x.1 x.2.1⟩
noncomputable def yB:Cx:=⟨tpr,[(116,kK),(117,sj)],[]⟩
theorem xU:aW yB [] none Tryz.f85 gz:=by intro x;kernel_rfl
theorem pP:av tpr 85:=aq Tryz.func85 rfl (by decide)
theorem pR:aG tpr 85 gz:=aH xU (.cons yN yH (.cons Gm F7 (.nil _))) aJ Tryz.func85
def Fx:List (Nat×Ann):=[(3,⟨[(3,.val tI),(6,.val (.slice tI)),(7,.val tI),(8,.val tI)],[],[],bz _⟩),
 (200003,⟨[(3,.val tI)],[],[],fun _=>0⟩)]
def vl:aA:=⟨[.val (.slice tI)],[.val tI],fun x=>vB x.1⟩
noncomputable def Jp:Cx:=⟨tpr,[],[]⟩
theorem Hg:aW Jp Fx none Tryz.f35 vl:=by intro x;kernel_rfl
theorem JB:av tpr 35:=aq Tryz.func35 rfl (by decide)
theorem JD:aG tpr 35 vl:=aH Hg (.nil _) aJ Tryz.func35
def iD:aA:=⟨[.val fO,.val fO],[.val tI],fun x=>ez x.1 x.2.1⟩
noncomputable def vC:Cx:=⟨tpr,[(35,vl),(36,kj)],[]⟩
theorem ve:aW vC [] none Tryz.f118 iD:=by intro x;kernel_rfl
theorem vI:av tpr 118:=aq Tryz.func118 rfl (by decide)
theorem vK:aG tpr 118 iD:=aH ve (.cons JD JB (.cons uJ uw (.nil _))) aJ Tryz.func118
def vz:List (Nat×Ann):=[(4,⟨[(0,.val (.slice fO)),(9,.val (.slice fO)),(10,.val tI),(11,.val tI)],[],[],bz _⟩),
 (200004,⟨[],[],[],fun _=>0⟩)]
def jy:aA:=⟨[.val (.slice fO)],[.val tI],fun x=>fD x.1⟩
noncomputable def xR:Cx:=⟨tpr,[(49,qy),(85,gz),(118,iD)],[]⟩
theorem wI:aW xR vz none Tryz.f86 jy:=by intro x;kernel_rfl
theorem xX:av tpr 86:=aq Tryz.func86 rfl (by decide)
theorem xZ:aG tpr 86 jy:=aH wI (.cons Bf A8 (.cons pR pP (.cons vK vI (.nil _)))) aJ Tryz.func86
def lu:aA:=⟨[.val (.slice bQ),.val tI],[.val tI],fun x=>jX x.1 x.2.1⟩
noncomputable def zk:Cx:=⟨tpr,[(84,pE),(85,gz),(86,jy)],[]⟩
theorem yF:aW zk [] none Tryz.f51 lu:=by intro x;kernel_rfl
theorem zx:av tpr 51:=aq Tryz.func51 rfl (by decide)
theorem zC:aG tpr 51 lu:=aH yF (.cons DW DO (.cons pR pP (.cons xZ xX (.nil _)))) aJ Tryz.func51
def mm:aA:=⟨[.val bQ,.val .str],[.val tI],fun x=>pe x.1 x.2.1⟩
noncomputable def Ac:Cx:=⟨tpr,[(36,kj)],[]⟩
theorem zn:aW Ac [] none Tryz.f45 mm:=by intro x;kernel_rfl
theorem Aq:av tpr 45:=aq Tryz.func45 rfl (by decide)
theorem AF:aG tpr 45 mm:=aH zn (.cons uJ uw (.nil _)) aJ Tryz.func45
def jr:List (Nat×Ann):=[(3,⟨[(0,.val (.slice bQ)),(1,.val .str),(2,.val (.clo 45 .unit)),(8,.val tI),(9,.val tI),(10,.val tI)],[],[],bz _⟩),
 (200003,⟨[(0,.val (.slice bQ)),(1,.val .str),(2,.val (.clo 45 .unit)),(8,.val tI),(9,.val tI)],[],[],fun _=>0⟩)]
def cU:aA:=⟨[.val (.slice bQ),.val .str,.val (.clo 45 .unit)],[.val tI,.val .bool],fun x=>b8 x.1 x.2.1 x.2.2.1⟩
noncomputable def kD:Cx:=⟨tpr,[(45,mm)],[]⟩
theorem jN:aW kD jr none Tryz.f44 cU:=by intro x;kernel_rfl
theorem kF:av tpr 44:=aq Tryz.func44 rfl (by decide)
theorem kH:aG tpr 44 cU:=aH jN (.cons AF Aq (.nil _)) aJ Tryz.func44
def eZ:aA:=⟨[.val bU,.val .str],[.val tI,.val .bool],fun x=>fE x.1 x.2.1⟩
noncomputable def B7:Cx:=⟨tpr,[(44,cU)],[]⟩
theorem Bw:aW B7 [] none Tryz.f21 eZ:=by intro x;kernel_rfl
theorem jP:av tpr 21:=aq Tryz.func21 rfl (by decide)
theorem jT:aG tpr 21 eZ:=aH Bw (.cons kH kF (.nil _)) aJ Tryz.func21
def BQ:List (Nat×Ann):=[(3,⟨[(1,.val tI),(2,.ref 2 0),(6,.own 3 tI),(7,.val tI)],[(2,zg)],[],bz _⟩),
 (200003,⟨[(6,.own 3 tI)],[],[],fun _=>0⟩)]
def iW:aA:=⟨[.val bU,.val tI],[.val (.slice tI),.val .bool],fun x=>fN x.1 x.2.1⟩
noncomputable def ED:Cx:=⟨tpr,[(21,eZ),(46,gA)],[]⟩
theorem DG:aW ED BQ none Tryz.f22 iW:=by intro x;kernel_rfl
theorem qK:av tpr 22:=aq Tryz.func22 rfl (by decide)
theorem qM:aG tpr 22 iW:=aH DG (.cons jT jP (.cons pS pQ (.nil _))) aJ Tryz.func22
def y8:List (Nat×Ann):=[(2,⟨[(1,.ref 1 0),(14,.val (.slice bQ)),(15,.val tI),(16,.val tI)],[(1,zg)],[],bz _⟩),
 (9,⟨[(1,.ref 1 0),(37,.val tI),(38,.val tI)],[(1,zg)],[],bz _⟩),
 (16,⟨[(1,.ref 1 0),(52,.val tI),(53,.val tI)],[(1,zg)],[],bz _⟩),
 (200002,⟨[(1,.ref 1 0)],[(1,zg)],[],fun _=>0⟩),
 (200009,⟨[(1,.ref 1 0)],[(1,zg)],[],fun _=>0⟩),
 (200016,⟨[],[],[],fun _=>0⟩)]
def nv:aA:=⟨[.val bU],[.val tI],fun x=>mc x.1⟩
noncomputable def Bq:Cx:=⟨tpr,[(21,eZ),(22,iW)],[]⟩
theorem Ae:aW Bq y8 none Tryz.f52 nv:=by intro x;kernel_rfl
theorem BA:av tpr 52:=aq Tryz.func52 rfl (by decide)
theorem BD:aG tpr 52 nv:=aH Ae (.cons jT jP (.cons qM qK (.nil _))) aJ Tryz.func52
end Go.Proofs.SeatU
end
