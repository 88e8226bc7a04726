/-
  Each function that the laws reach is as its plain model says. No condition.
-/
import Derived.Test.YtcpmaicaibdafaaGreatDoorYv
set_option linter.all false
set_option maxRecDepth 100000
noncomputable section
namespace Go.Proofs
abbrev tpr:=Tryz.prog
end Go.Proofs
namespace Go.Proofs.SeatA
open Go.Dn Go.Md Go.Proofs
theorem aC:Tryz.prog.follows .mixedOrders=true:=by kernel_rfl
def aN (X:Cx) (anns:List (Nat×Ann)) (ar:Option Ty) (fn:Func) (sp:az):Prop:=∀ x,KR X anns ar fn sp x=sp.m x
theorem aB {X:Cx} {anns:List (Nat×Ann)} {ar:Option Ty} {fn:Func} {sp:az} (h:aN X anns ar fn sp) (hX:b8 X) (hm:X.P.follows .mixedOrders=true) {f:FuncId} (hf:X.P.funcs[f]? =some fn):aG X.P f sp:=Ue hX hm sp anns ar hf fun x _ e=>(h x).trans e
def Ho:List CK:=[.val .bool,.own 203 (.int .u32)]
def LS:List CK:=[.val .bool,.val (.slice (.int .u32))]
def TS:List CK:=[.val .bool,.val .bool,.val .bool,.val .bool,.val .bool,.val .bool]
def TT:List CK:=[.val .str,.val .str,.val .str,.val tI,.val tI,.val (.slice jw),.val (.slice aO),.mapR 10,.own 244 aA,.own 258 cO,.val tI]
def TU:List CK:=[.val .str,.val .str,.val .str,.val tI,.val tI,.val (.slice jw),.val (.slice aO),.mapR 10250003,.rowR 10250004,.rowR 10250005,.val tI]
def Hp:List CK:=[.val .str,.val .str,.val .str,.val tI,.val tI,.val (.slice jw)]
def LU:List CK:=[.val .str,.val .str,.val tI,.val tI,.val tI,.val .bool,.val (.slice dZ),.val (.slice eM),.val (.slice iZ)]
def Hq:List CK:=[.val tI,.val tI,.val tI,.val tI,.val tI,.val .str,.val tI,.val tI,.val .str,.val tI,.val tI,.val tI,.val tI]
def fm:az:=⟨[.val .str],[.val .bool],fun x=>bW x.1⟩
noncomputable def Pn:Cx:=⟨tpr,[(88,yu)],[]⟩
theorem NI:aN Pn [] none Tryz.f48 fm:=by intro x;kernel_rfl
theorem iC:aq tpr 48:=an Tryz.func48 rfl (by decide)
theorem iD:aG tpr 48 fm:=aB NI (.cons MQ My (.nil _)) aC Tryz.func48
def cN:az:=⟨[.val tI,.val tI,.val tI],[.val .bool],fun x=>bD x.1 x.2.1 x.2.2.1⟩
noncomputable def Nx:Cx:=⟨tpr,[],[]⟩
theorem Mc:aN Nx [] none Tryz.f35 cN:=by intro x;kernel_rfl
theorem dO:aq tpr 35:=an Tryz.func35 rfl (by decide)
theorem dR:aG tpr 35 cN:=aB Mc (.nil _) aC Tryz.func35
def gx:az:=⟨[.val tI],[.val .bool],fun x=>gZ x.1⟩
noncomputable def Qs:Cx:=⟨tpr,[(35,cN)],[]⟩
theorem Pv:aN Qs [] none Tryz.f37 gx:=by intro x;kernel_rfl
theorem jg:aq tpr 37:=an Tryz.func37 rfl (by decide)
theorem jk:aG tpr 37 gx:=aB Pv (.cons dR dO (.nil _)) aC Tryz.func37
def de:az:=⟨[.val aA],[.val tI],fun x=>bU x.1⟩
noncomputable def Dl:Cx:=⟨tpr,[(35,cN)],[]⟩
theorem CH:aN Dl [] none Tryz.f114 de:=by intro x;kernel_rfl
theorem fD:aq tpr 114:=an Tryz.func114 rfl (by decide)
theorem fE:aG tpr 114 de:=aB CH (.cons dR dO (.nil _)) aC Tryz.func114
def KA:List (Nat×Ann):=[(3,⟨[(3,.val tI),(4,.val tI),(5,.val tI)],[],[],bg _⟩),
 (200003,⟨[(3,.val tI)],[],[],fun _=>0⟩)]
def vg:az:=⟨[.val tI],[.val tI],fun x=>zK x.1⟩
noncomputable def Ny:Cx:=⟨tpr,[],[]⟩
theorem Me:aN Ny KA none Tryz.f215 vg:=by intro x;kernel_rfl
theorem EH:aq tpr 215:=an Tryz.func215 rfl (by decide)
theorem EP:aG tpr 215 vg:=aB Me (.nil _) aC Tryz.func215
def s8:az:=⟨[.val aA,.val tI,.val tI],[.val .bool],fun x=>qs x.1 x.2.1 x.2.2.1⟩
noncomputable def L5:Cx:=⟨tpr,[(215,vg)],[]⟩
theorem KY:aN L5 [] none Tryz.f210 s8:=by intro x;kernel_rfl
theorem C2:aq tpr 210:=an Tryz.func210 rfl (by decide)
theorem C9:aG tpr 210 s8:=aB KY (.cons EP EH (.nil _)) aC Tryz.func210
def kP:az:=⟨[.val aA,.val .bool],[.val tI],fun x=>jS x.1 x.2.1⟩
noncomputable def Dq:Cx:=⟨tpr,[(114,de),(210,s8)],[]⟩
theorem CL:aN Dq [] none Tryz.f156 kP:=by intro x;kernel_rfl
theorem wg:aq tpr 156:=an Tryz.func156 rfl (by decide)
theorem wj:aG tpr 156 kP:=aB CL (.cons fE fD (.cons C9 C2 (.nil _))) aC Tryz.func156
def jW:az:=⟨[.val aA],[.val tI],fun x=>iM x.1⟩
noncomputable def GF:Cx:=⟨tpr,[(114,de),(210,s8)],[]⟩
theorem Fq:aN GF [] none Tryz.f157 jW:=by intro x;kernel_rfl
theorem sF:aq tpr 157:=an Tryz.func157 rfl (by decide)
theorem sI:aG tpr 157 jW:=aB Fq (.cons fE fD (.cons C9 C2 (.nil _))) aC Tryz.func157
def E8:List (Nat×Ann):=[(300004,⟨[(17,.val .bool)],[],[],fun _=>0⟩)]
def uw:az:=⟨[.val bz,.val tI],[.val tI],fun x=>sZ x.1 x.2.1⟩
noncomputable def HE:Cx:=⟨tpr,[(35,cN),(48,fm),(156,kP),(157,jW)],[]⟩
theorem GP:aN HE E8 none Tryz.f87 uw:=by intro x;kernel_rfl
theorem Ib:aq tpr 87:=an Tryz.func87 rfl (by decide)
theorem IE:aG tpr 87 uw:=aB GP (.cons dR dO (.cons iD iC (.cons wj wg (.cons sI sF (.nil _))))) aC Tryz.func87
def Ed:List (Nat×Ann):=[(12,⟨[(1,.ref 1 0),(50,.val tI),(51,.val tI)],[(1,Hp)],[],bg _⟩),
 (200012,⟨[],[],[],fun _=>0⟩)]
def ig:az:=⟨[.val bz],[.val tI],fun x=>iL x.1⟩
noncomputable def GD:Cx:=⟨tpr,[(35,cN),(37,gx),(48,fm),(87,uw)],[]⟩
theorem Fp:aN GD Ed none Tryz.f47 ig:=by intro x;kernel_rfl
theorem nC:aq tpr 47:=an Tryz.func47 rfl (by decide)
theorem nD:aG tpr 47 ig:=aB Fp (.cons dR dO (.cons jk jg (.cons iD iC (.cons IE Ib (.nil _))))) aC Tryz.func47
def oK:az:=⟨[.val tI],[.val .bool],fun x=>oA x.1⟩
noncomputable def HD:Cx:=⟨tpr,[],[]⟩
theorem GO:aN HD [] none Tryz.f185 oK:=by intro x;kernel_rfl
theorem zX:aq tpr 185:=an Tryz.func185 rfl (by decide)
theorem Ag:aG tpr 185 oK:=aB GO (.nil _) aC Tryz.func185
def yt:az:=⟨[.val tI],[.val Rk],fun x=>yh x.1⟩
noncomputable def L4:Cx:=⟨tpr,[],[]⟩
theorem KX:aN L4 [] none Tryz.f234 yt:=by intro x;kernel_rfl
theorem Mx:aq tpr 234:=an Tryz.func234 rfl (by decide)
theorem MP:aG tpr 234 yt:=aB KX (.nil _) aC Tryz.func234
def E9:List (Nat×Ann):=[(100003,⟨[(1,.ref 1 0),(3,.ref 3 0)],[(1,Hq),(3,TS)],[],fun _=>0⟩),
 (100007,⟨[(1,.ref 1 0),(3,.ref 3 0)],[(1,Hq),(3,TS)],[],fun _=>0⟩),
 (300011,⟨[(30,.val .bool)],[],[],fun _=>0⟩),
 (300013,⟨[(39,.val .bool)],[],[],fun _=>0⟩),
 (300015,⟨[(58,.val .bool)],[],[],fun _=>0⟩),
 (300017,⟨[(66,.val .bool)],[],[],fun _=>0⟩)]
def ux:az:=⟨[.val aO],[.val tI],fun x=>s5 x.1⟩
noncomputable def HG:Cx:=⟨tpr,[(35,cN),(37,gx),(48,fm),(156,kP),(157,jW),(234,yt)],[]⟩
theorem GR:aN HG E9 none Tryz.f186 ux:=by intro x;kernel_rfl
theorem Ic:aq tpr 186:=an Tryz.func186 rfl (by decide)
theorem IF:aG tpr 186 ux:=aB GR (.cons dR dO (.cons jk jg (.cons iD iC (.cons wj wg (.cons sI sF (.cons MP Mx (.nil _))))))) aC Tryz.func186
def uv:az:=⟨[.val aO],[.val tI],fun x=>sY x.1⟩
noncomputable def HC:Cx:=⟨tpr,[(35,cN),(37,gx),(185,oK),(186,ux)],[]⟩
theorem GN:aN HC [] none Tryz.f122 uv:=by intro x;kernel_rfl
theorem Ia:aq tpr 122:=an Tryz.func122 rfl (by decide)
theorem ID:aG tpr 122 uv:=aB GN (.cons dR dO (.cons jk jg (.cons Ag zX (.cons IF Ic (.nil _))))) aC Tryz.func122
def CE:List (Nat×Ann):=[(2,⟨[(22,.rowR 22),(23,.val tI),(24,.val tI)],[],[.rowC 22 3 tI],bg _⟩),
 (200002,⟨[],[],[],fun _=>0⟩)]
def qA:az:=⟨[.val aO,.val aO],[.val tI],fun x=>kX x.1 x.2.1⟩
noncomputable def Ep:Cx:=⟨tpr,[],[]⟩
theorem Dy:aN Ep CE none Tryz.f123 qA:=by intro x;kernel_rfl
theorem EF:aq tpr 123:=an Tryz.func123 rfl (by decide)
theorem EN:aG tpr 123 qA:=aB Dy (.nil _) aC Tryz.func123
def Ec:List (Nat×Ann):=[(5,⟨[(0,.val (.slice aO)),(3,.ref 3 0),(11,.val (.slice aO)),(12,.val tI),(13,.val tI)],[(3,[.val tI,.val tI,.val tI])],[],bg _⟩),
 (200005,⟨[],[],[],fun _=>0⟩),
 (300010,⟨[(34,.val .bool)],[],[],fun _=>0⟩)]
def jV:az:=⟨[.val (.slice aO)],[.val tI],fun x=>kg x.1⟩
noncomputable def GC:Cx:=⟨tpr,[(122,uv),(123,qA)],[]⟩
theorem Fo:aN GC Ec none Tryz.f68 jV:=by intro x;kernel_rfl
theorem sE:aq tpr 68:=an Tryz.func68 rfl (by decide)
theorem sH:aG tpr 68 jV:=aB Fo (.cons ID Ia (.cons EN EF (.nil _))) aC Tryz.func68
def kO:az:=⟨[.val aA],[.val tI],fun x=>jP x.1⟩
noncomputable def Dm:Cx:=⟨tpr,[(35,cN)],[]⟩
theorem CI:aN Dm [] none Tryz.f13 kO:=by intro x;kernel_rfl
theorem we:aq tpr 13:=an Tryz.func13 rfl (by decide)
theorem wh:aG tpr 13 kO:=aB CI (.cons dR dO (.nil _)) aC Tryz.func13
def yp:az:=⟨[.val tI],[.val .bool],fun x=>BC x.1⟩
noncomputable def LX:Cx:=⟨tpr,[(35,cN)],[]⟩
theorem KS:aN LX [] none Tryz.f89 yp:=by intro x;kernel_rfl
theorem Mv:aq tpr 89:=an Tryz.func89 rfl (by decide)
theorem MN:aG tpr 89 yp:=aB KS (.cons dR dO (.nil _)) aC Tryz.func89
def LK:List (Nat×Ann):=[(3,⟨[(3,.val tI),(4,.val tI),(5,.val tI)],[],[],bg _⟩),
 (200003,⟨[(3,.val tI)],[],[],fun _=>0⟩)]
def sd:az:=⟨[.val tI],[.val tI],fun x=>uM x.1⟩
noncomputable def Pm:Cx:=⟨tpr,[],[]⟩
theorem NH:aN Pm LK none Tryz.f191 sd:=by intro x;kernel_rfl
theorem AH:aq tpr 191:=an Tryz.func191 rfl (by decide)
theorem AK:aG tpr 191 sd:=aB NH (.nil _) aC Tryz.func191
def lP:az:=⟨[.val aA,.val tI],[.val .bool],fun x=>dW x.1 x.2.1⟩
noncomputable def L2:Cx:=⟨tpr,[(35,cN),(191,sd)],[]⟩
theorem KV:aN L2 [] none Tryz.f165 lP:=by intro x;kernel_rfl
theorem sV:aq tpr 165:=an Tryz.func165 rfl (by decide)
theorem sW:aG tpr 165 lP:=aB KV (.cons dR dO (.cons AK AH (.nil _))) aC Tryz.func165
def E7:List (Nat×Ann):=[(6,⟨[(0,.val (.slice dZ)),(12,.val (.slice dZ)),(13,.val tI),(14,.val tI)],[],[],bg _⟩),
 (200006,⟨[],[],[],fun _=>0⟩)]
def uo:az:=⟨[.val (.slice dZ)],[.val tI],fun x=>lB x.1⟩
noncomputable def HB:Cx:=⟨tpr,[(48,fm),(114,de),(165,lP)],[]⟩
theorem GM:aN HB E7 none Tryz.f90 uo:=by intro x;kernel_rfl
theorem H9:aq tpr 90:=an Tryz.func90 rfl (by decide)
theorem IC:aG tpr 90 uo:=aB GM (.cons iD iC (.cons fE fD (.cons sW sV (.nil _)))) aC Tryz.func90
def xm:az:=⟨[.val dZ,.val .str],[.val tI],fun x=>AA x.1 x.2.1⟩
noncomputable def KL:Cx:=⟨tpr,[(228,uy)],[]⟩
theorem JS:aN KL [] none Tryz.f227 xm:=by intro x;kernel_rfl
theorem K8:aq tpr 227:=an Tryz.func227 rfl (by decide)
theorem Lm:aG tpr 227 xm:=aB JS (.cons IG Ie (.nil _)) aC Tryz.func227
def oS:List (Nat×Ann):=[(3,⟨[(0,.val (.slice dZ)),(1,.val .str),(2,.val (.clo 227 .unit)),(8,.val tI),(9,.val tI),(10,.val tI)],[],[],bg _⟩),
 (200003,⟨[(0,.val (.slice dZ)),(1,.val .str),(2,.val (.clo 227 .unit)),(8,.val tI),(9,.val tI)],[],[],fun _=>0⟩)]
def eL:az:=⟨[.val (.slice dZ),.val .str,.val (.clo 227 .unit)],[.val tI,.val .bool],fun x=>dx x.1 x.2.1 x.2.2.1⟩
noncomputable def qc:Cx:=⟨tpr,[(227,xm)],[]⟩
theorem pM:aN qc oS none Tryz.f226 eL:=by intro x;kernel_rfl
theorem qh:aq tpr 226:=an Tryz.func226 rfl (by decide)
theorem qm:aG tpr 226 eL:=aB pM (.cons Lm K8 (.nil _)) aC Tryz.func226
def zj:az:=⟨[.val (.slice dZ),.val .str],[.val tI,.val .bool],fun x=>zG x.1 x.2.1⟩
noncomputable def Nw:Cx:=⟨tpr,[(226,eL)],[]⟩
theorem Mb:aN Nw [] none Tryz.f176 zj:=by intro x;kernel_rfl
theorem NS:aq tpr 176:=an Tryz.func176 rfl (by decide)
theorem N9:aG tpr 176 zj:=aB Mb (.cons qm qh (.nil _)) aC Tryz.func176
def s7:az:=⟨[.val aU,.val .str],[.val .bool],fun x=>ir x.1 x.2.1⟩
noncomputable def L3:Cx:=⟨tpr,[(176,zj)],[]⟩
theorem KW:aN L3 [] none Tryz.f166 s7:=by intro x;kernel_rfl
theorem CZ:aq tpr 166:=an Tryz.func166 rfl (by decide)
theorem C8:aG tpr 166 s7:=aB KW (.cons N9 NS (.nil _)) aC Tryz.func166
def Ea:List (Nat×Ann):=[(4,⟨[(2,.val .bool),(3,.ref 3 0),(13,.val (.slice iZ)),(14,.val tI),(15,.val tI)],[(3,LU)],[],bg _⟩),
 (100012,⟨[(2,.val .bool),(3,.ref 3 0),(8,.ref 8 0),(13,.val (.slice iZ)),(14,.val tI),(15,.val tI),(30,.val .bool)],[(3,LU),(8,[.val .bool,.val tI,.val tI,.val .str])],[],fun _=>0⟩),
 (200004,⟨[],[],[],fun _=>0⟩)]
def nK:az:=⟨[.val aU,.val (.slice iZ),.val .bool],[.val tI],fun x=>iI x.1 x.2.1 x.2.2.1⟩
noncomputable def GA:Cx:=⟨tpr,[(114,de),(165,lP),(166,s7)],[]⟩
theorem Fl:aN GA Ea none Tryz.f92 nK:=by intro x;kernel_rfl
theorem yG:aq tpr 92:=an Tryz.func92 rfl (by decide)
theorem yJ:aG tpr 92 nK:=aB Fl (.cons fE fD (.cons sW sV (.cons C8 CZ (.nil _)))) aC Tryz.func92
def vS:az:=⟨[.val aU,.val tI],[.val tI],fun x=>p8 x.1 x.2.1⟩
noncomputable def JH:Cx:=⟨tpr,[(35,cN),(48,fm),(92,nK),(114,de),(157,jW),(165,lP),(166,s7)],[]⟩
theorem HN:aN JH [] none Tryz.f91 vS:=by intro x;kernel_rfl
theorem J2:aq tpr 91:=an Tryz.func91 rfl (by decide)
theorem J6:aG tpr 91 vS:=aB HN (.cons dR dO (.cons iD iC (.cons yJ yG (.cons fE fD (.cons sI sF (.cons sW sV (.cons C8 CZ (.nil _)))))))) aC Tryz.func91
def Df:List (Nat×Ann):=[(15,⟨[(1,.ref 1 0),(48,.val tI),(49,.val tI)],[(1,LU)],[],bg _⟩),
 (200015,⟨[(1,.ref 1 0)],[(1,LU)],[],fun _=>0⟩)]
def jr:az:=⟨[.val aU],[.val tI],fun x=>gL x.1⟩
noncomputable def Fh:Cx:=⟨tpr,[(35,cN),(37,gx),(48,fm),(89,yp),(90,uo),(91,vS),(92,nK)],[]⟩
theorem Eu:aN Fh Df none Tryz.f49 jr:=by intro x;kernel_rfl
theorem qX:aq tpr 49:=an Tryz.func49 rfl (by decide)
theorem q9:aG tpr 49 jr:=aB Eu (.cons dR dO (.cons jk jg (.cons iD iC (.cons MN Mv (.cons IC H9 (.cons J6 J2 (.cons yJ yG (.nil _)))))))) aC Tryz.func49
def Gz:List (Nat×Ann):=[(13,⟨[(1,.val (.slice aO)),(3,.val (.slice aU)),(4,.ref 4 0),(6,.ref 6 0),(34,.val (.slice aU)),(35,.val tI),(36,.val tI)],[(4,Hp),(6,[.val tI,.val tI])],[],bg _⟩),
 (200013,⟨[(1,.val (.slice aO)),(3,.val (.slice aU)),(4,.ref 4 0),(6,.ref 6 0)],[(4,Hp),(6,[.val tI,.val tI])],[],fun _=>0⟩),
 (300018,⟨[(58,.val .bool)],[],[],fun _=>0⟩)]
def pS:az:=⟨[.val bz,.val (.slice aO),.val aA,.val (.slice aU)],[.box [.val bz,.val (.slice aO),.val aA,.val (.slice aU),.map tI (.slice bH),.map tI aS,.row 37 gH],.val tI],fun x=>p9 x.1 x.2.1 x.2.2.1 x.2.2.2.1⟩
noncomputable def JI:Cx:=⟨tpr,[(13,kO),(47,ig),(49,jr),(68,jV)],[]⟩
theorem HO:aN JI Gz none Tryz.f30 pS:=by intro x;kernel_rfl
theorem AT:aq tpr 30:=an Tryz.func30 rfl (by decide)
theorem AU:aG tpr 30 pS:=aB HO (.cons wh we (.cons nD nC (.cons q9 qX (.cons sH sE (.nil _))))) aC Tryz.func30
def Eb:List (Nat×Ann):=[(13,⟨[(1,.val (.slice aO)),(3,.val (.slice aU)),(4,.ref 4 0),(6,.ref 6 0),(34,.val (.slice aU)),(35,.val tI),(36,.val tI)],[(4,Hp),(6,[.val tI,.val tI])],[],bg _⟩),
 (200013,⟨[(1,.val (.slice aO)),(3,.val (.slice aU)),(4,.ref 4 0),(6,.ref 6 0)],[(4,Hp),(6,[.val tI,.val tI])],[],fun _=>0⟩),
 (300018,⟨[(58,.val .bool)],[],[],fun _=>0⟩)]
def nL:az:=⟨[.val bz,.val (.slice aO),.val aA,.val (.slice aU)],[.val .hnd,.val tI],fun x=>mS x.1 x.2.1 x.2.2.1 x.2.2.2.1⟩
noncomputable def GB:Cx:=⟨tpr,[(13,kO),(47,ig),(49,jr),(68,jV)],[]⟩
theorem Fm:aN GB Eb none Tryz.f30 nL:=by intro x;kernel_rfl
theorem yH:aq tpr 30:=an Tryz.func30 rfl (by decide)
theorem yK:aG tpr 30 nL:=aB Fm (.cons wh we (.cons nD nC (.cons q9 qX (.cons sH sE (.nil _))))) aC Tryz.func30
def iW:az:=⟨[.val tI,.val tI,.box [.val bz,.val (.slice aO),.val aA,.val (.slice aU),.map tI (.slice bH),.map tI aS,.row 37 gH],.box [.val tI]],[],fun x=>fB x.1 x.2.1 x.2.2.1 x.2.2.2.1⟩
noncomputable def sS:Cx:=⟨tpr,[],[]⟩
theorem AD:∀ x,U9 sS [] Tryz.f69 iW 2 x=iW.m x:=by intro x;kernel_rfl
noncomputable def Um:Aw:= .nest 2 iW
theorem WJ:aq tpr 69:=an Tryz.func69 rfl (by decide)
theorem WK:I6 Tryz.prog 69 Um:=Wj (X:=sS) (.nil _) (by kernel_rfl) iW 2 [] (by kernel_rfl) (fun x y h=>(AD x).trans h)
def mE:az:=⟨[.val aU,.val (.ptr aU)],[.val .bool],fun x=>oT x.1 x.2.1⟩
noncomputable def AY:Cx:=⟨tpr,[],[]⟩
theorem AE:aN AY [] none Tryz.f71 mE:=by intro x;kernel_rfl
theorem A9:aq tpr 71:=an Tryz.func71 rfl (by decide)
theorem Be:aG tpr 71 mE:=aB AE (.nil _) aC Tryz.func71
def vY:List (Nat×Ann):=[(2,⟨[(0,.val (.slice aU)),(1,.val (.clo 71 (.ptr aU))),(7,.val tI),(8,.val tI)],[],[],bg _⟩),
 (200002,⟨[],[],[],fun _=>0⟩)]
def iY:az:=⟨[.val (.slice aU),.val (.clo 71 (.ptr aU))],[.val tI],fun x=>ku x.1 x.2.1⟩
noncomputable def xQ:Cx:=⟨tpr,[(71,mE)],[]⟩
theorem wY:aN xQ vY none Tryz.f124 iY:=by intro x;kernel_rfl
theorem xS:aq tpr 124:=an Tryz.func124 rfl (by decide)
theorem xU:aG tpr 124 iY:=aB wY (.cons Be A9 (.nil _)) aC Tryz.func124
def gV:az:=⟨[.val (.slice aU),.val (.clo 71 (.ptr aU))],[.val .bool],fun x=>fq x.1 x.2.1⟩
noncomputable def vw:Cx:=⟨tpr,[(124,iY)],[]⟩
theorem uQ:aN vw [] none Tryz.f70 gV:=by intro x;kernel_rfl
theorem vC:aq tpr 70:=an Tryz.func70 rfl (by decide)
theorem vH:aG tpr 70 gV:=aB uQ (.cons xU xS (.nil _)) aC Tryz.func70
def rC:az:=⟨[.val bz,.val (.slice aO)],[.val tI],fun x=>rV x.1 x.2.1⟩
noncomputable def KN:Cx:=⟨tpr,[(47,ig),(68,jV)],[]⟩
theorem JU:aN KN [] none Tryz.f98 rC:=by intro x;kernel_rfl
theorem BY:aq tpr 98:=an Tryz.func98 rfl (by decide)
theorem Ce:aG tpr 98 rC:=aB JU (.cons nD nC (.cons sH sE (.nil _))) aC Tryz.func98
def kC:az:=⟨[.val aA],[.val tI],fun x=>iw x.1⟩
noncomputable def Nz:Cx:=⟨tpr,[(215,vg)],[]⟩
theorem Mf:aN Nz [] none Tryz.f170 kC:=by intro x;kernel_rfl
theorem qg:aq tpr 170:=an Tryz.func170 rfl (by decide)
theorem qj:aG tpr 170 kC:=aB Mf (.cons EP EH (.nil _)) aC Tryz.func170
def Dh:List (Nat×Ann):=[(3,⟨[(5,.ref 12 0),(14,.val (.slice jw)),(15,.val tI),(16,.val tI)],[(12,TT)],[.mapC 10 tI .hnd,.ar bN],bg _⟩),
 (200003,⟨[(5,.ref 12 0)],[(12,TT)],[.mapC 10 tI .hnd,.ar bN],fun _=>0⟩)]
def mH:az:=⟨[.val bz,.val (.slice aO),.ar bN],[.box [.val bz,.val (.slice aO),.map tI .hnd,.row 244 aA,.row 258 cO,.val tI]],fun x=>jA x.1 x.2.1 x.2.2.1⟩
noncomputable def Fj:Cx:=⟨tpr,[(170,kC)],[]⟩
theorem Ew:aN Fj Dh none Tryz.f99 mH:=by intro x;kernel_rfl
theorem yb:aq tpr 99:=an Tryz.func99 rfl (by decide)
theorem yf:aG tpr 99 mH:=aB Ew (.cons qj qg (.nil _)) aC Tryz.func99
def qB:az:=⟨[.box [.val bz,.val (.slice aO),.map tI .hnd,.row 244 aA,.row 258 cO,.val tI],.val tI,.ar bN],[.val tI],fun x=>oz x.1 x.2.1 x.2.2.1⟩
noncomputable def Er:Cx:=⟨tpr,[],[]⟩
theorem Dz:aN Er [] none Tryz.f216 qB:=by intro x;kernel_rfl
theorem EG:aq tpr 216:=an Tryz.func216 rfl (by decide)
theorem EO:aG tpr 216 qB:=aB Dz (.nil _) aC Tryz.func216
def BE:List (Nat×Ann):=[(300002,⟨[(27,.val .bool)],[],[],fun _=>0⟩)]
def pJ:az:=⟨[.box [.val bz,.val (.slice aO),.map tI .hnd,.row 244 aA,.row 258 cO,.val tI],.val .hnd,.val tI,.ar bN],[.val tI],fun x=>nH x.1 x.2.1 x.2.2.1 x.2.2.2.1⟩
noncomputable def Du:Cx:=⟨tpr,[],[]⟩
theorem CP:aN Du BE none Tryz.f217 pJ:=by intro x;kernel_rfl
theorem DH:aq tpr 217:=an Tryz.func217 rfl (by decide)
theorem DU:aG tpr 217 pJ:=aB CP (.nil _) aC Tryz.func217
def nk:az:=⟨[.box [.val bz,.val (.slice aO),.map tI .hnd,.row 244 aA,.row 258 cO,.val tI],.val .hnd,.val aO,.ar bN],[.val tI],fun x=>lG x.1 x.2.1 x.2.2.1 x.2.2.2.1⟩
noncomputable def BL:Cx:=⟨tpr,[(170,kC)],[]⟩
theorem A5:aN BL [] none Tryz.f218 nk:=by intro x;kernel_rfl
theorem BZ:aq tpr 218:=an Tryz.func218 rfl (by decide)
theorem Cf:aG tpr 218 nk:=aB A5 (.cons qj qg (.nil _)) aC Tryz.func218
def oL:az:=⟨[.val .hnd,.arR bN],[.val tI],fun x=>lK x.1 x.2.1⟩
noncomputable def HF:Cx:=⟨tpr,[],[]⟩
theorem GQ:aN HF [] none Tryz.f105 oL:=by intro x;kernel_rfl
theorem zY:aq tpr 105:=an Tryz.func105 rfl (by decide)
theorem Ah:aG tpr 105 oL:=aB GQ (.nil _) aC Tryz.func105
def mG:az:=⟨[.box [.val bz,.val (.slice aO),.map tI .hnd,.row 244 aA,.row 258 cO,.val tI],.val .hnd,.val aO,.ar bN],[.val tI],fun x=>kN x.1 x.2.1 x.2.2.1 x.2.2.2.1⟩
noncomputable def AZ:Cx:=⟨tpr,[(105,oL),(170,kC)],[]⟩
theorem AF:aN AZ [] none Tryz.f219 mG:=by intro x;kernel_rfl
theorem Ba:aq tpr 219:=an Tryz.func219 rfl (by decide)
theorem Bf:aG tpr 219 mG:=aB AF (.cons Ah zY (.cons qj qg (.nil _))) aC Tryz.func219
def pI:az:=⟨[.box [.val bz,.val (.slice aO),.map tI .hnd,.row 244 aA,.row 258 cO,.val tI],.val .hnd,.val aO,.ar bN],[.val tI],fun x=>nG x.1 x.2.1 x.2.2.1 x.2.2.2.1⟩
noncomputable def Dt:Cx:=⟨tpr,[],[]⟩
theorem CO:aN Dt [] none Tryz.f220 pI:=by intro x;kernel_rfl
theorem DG:aq tpr 220:=an Tryz.func220 rfl (by decide)
theorem DT:aG tpr 220 pI:=aB CO (.nil _) aC Tryz.func220
def pH:az:=⟨[.box [.val bz,.val (.slice aO),.map tI .hnd,.row 244 aA,.row 258 cO,.val tI],.val .hnd,.val aO,.ar bN],[.val tI],fun x=>nF x.1 x.2.1 x.2.2.1 x.2.2.2.1⟩
noncomputable def Ds:Cx:=⟨tpr,[(170,kC)],[]⟩
theorem CN:aN Ds [] none Tryz.f221 pH:=by intro x;kernel_rfl
theorem DF:aq tpr 221:=an Tryz.func221 rfl (by decide)
theorem DS:aG tpr 221 pH:=aB CN (.cons qj qg (.nil _)) aC Tryz.func221
def BD:List (Nat×Ann):=[(100011,⟨[(0,.ref 2000 0),(1,.val tI),(5,.ref 5 0),(6,.val .hnd),(31,.val tI),(36,.val .bool)],[(5,Hq),(2000,TU)],[.rowC 10250004 244 aA,.rowC 10250005 258 cO,.mapC 10250003 tI .hnd,.ar bN],fun _=>0⟩),
 (100015,⟨[(0,.ref 2000 0),(5,.ref 5 0),(6,.val .hnd),(31,.val tI),(44,.val .bool)],[(5,Hq),(2000,TU)],[.rowC 10250004 244 aA,.rowC 10250005 258 cO,.mapC 10250003 tI .hnd,.ar bN],fun _=>0⟩),
 (100017,⟨[(5,.ref 5 0),(6,.val .hnd),(7,.val tI)],[(5,Hq),(2000,[.val .str,.val .str,.val .str,.val tI,.val tI,.val (.slice jw),.val (.slice aO),.map tI .hnd,.own 244 aA,.own 258 cO,.val tI])],[.ar bN],fun _=>0⟩),
 (300021,⟨[(69,.val .bool)],[],[],fun _=>0⟩)]
def pG:az:=⟨[.box [.val bz,.val (.slice aO),.map tI .hnd,.row 244 aA,.row 258 cO,.val tI],.val tI,.ar bN],[.val tI],fun x=>aT x.1 x.2.1 x.2.2.1⟩
noncomputable def Dr:Cx:=⟨tpr,[(170,kC),(185,oK),(216,qB),(217,pJ),(218,nk),(219,mG),(220,pI),(221,pH)],[]⟩
theorem CM:aN Dr BD none Tryz.f171 pG:=by intro x;kernel_rfl
theorem DE:aq tpr 171:=an Tryz.func171 rfl (by decide)
theorem DR:aG tpr 171 pG:=aB CM (.cons qj qg (.cons Ag zX (.cons EO EG (.cons DU DH (.cons Cf BZ (.cons Bf Ba (.cons DT DG (.cons DS DF (.nil _))))))))) aC Tryz.func171
def He:List (Nat×Ann):=[(1,⟨[(0,.val (.slice (.int .u32)))],[],[],bg _⟩),
 (200001,⟨[(0,.val (.slice (.int .u32)))],[],[],fun _=>0⟩)]
def nt:az:=⟨[.val (.slice (.int .u32))],[.val (.slice (.int .u32))],fun x=>nU x.1⟩
noncomputable def KQ:Cx:=⟨tpr,[],[]⟩
theorem JX:aN KQ He none Tryz.f150 nt:=by intro x;kernel_rfl
theorem w6:aq tpr 150:=an Tryz.func150 rfl (by decide)
theorem w9:aG tpr 150 nt:=aB JX (.nil _) aC Tryz.func150
def lV:az:=⟨[.val .bool,.val (.slice (.int .u32))],[.val aS],fun x=>iG x.1 x.2.1⟩
noncomputable def Pr:Cx:=⟨tpr,[(150,nt)],[]⟩
theorem NM:aN Pr [] none Tryz.f115 lV:=by intro x;kernel_rfl
theorem rQ:aq tpr 115:=an Tryz.func115 rfl (by decide)
theorem rT:aG tpr 115 lV:=aB NM (.cons w9 w6 (.nil _)) aC Tryz.func115
def Pf:List (Nat×Ann):=[(100003,⟨[(0,.val tI),(2,.ref 2 0),(3,.val (.int .u64))],[(2,Ho)],[],fun _=>0⟩)]
def kQ:az:=⟨[.val tI],[.val aS],fun x=>kE x.1⟩
noncomputable def Rx:Cx:=⟨tpr,[(115,lV)],[]⟩
theorem Qx:aN Rx Pf none Tryz.f64 kQ:=by intro x;kernel_rfl
theorem oU:aq tpr 64:=an Tryz.func64 rfl (by decide)
theorem o8:aG tpr 64 kQ:=aB Qx (.cons rT rQ (.nil _)) aC Tryz.func64
def Np:List (Nat×Ann):=[(6,⟨[(1,.val (.slice (.int .u32))),(5,.own 203 (.int .u32)),(6,.val (.int .u64)),(20,.val (.slice (.int .u32))),(21,.val tI),(22,.val tI)],[],[],bg _⟩),
 (100002,⟨[(0,.val (.slice (.int .u32))),(1,.val (.slice (.int .u32)))],[],[],fun _=>0⟩),
 (100010,⟨[(1,.val (.slice (.int .u32))),(5,.own 203 (.int .u32)),(6,.val (.int .u64)),(20,.val (.slice (.int .u32))),(21,.val tI),(22,.val tI)],[],[],fun _=>0⟩),
 (200006,⟨[(5,.own 203 (.int .u32)),(6,.val (.int .u64))],[],[],fun _=>0⟩)]
def Cu:az:=⟨[.val (.slice (.int .u32)),.val (.slice (.int .u32))],[.row 203 (.int .u32)],fun x=>As x.1 x.2.1⟩
noncomputable def Qu:Cx:=⟨tpr,[],[]⟩
theorem Px:aN Qu Np none Tryz.f116 Cu:=by intro x;kernel_rfl
theorem QJ:aq tpr 116:=an Tryz.func116 rfl (by decide)
theorem Q4:aG tpr 116 Cu:=aB Px (.nil _) aC Tryz.func116
def KC:List (Nat×Ann):=[(6,⟨[(1,.val (.slice (.int .u32))),(5,.own 203 (.int .u32)),(6,.val (.int .u64)),(20,.val (.slice (.int .u32))),(21,.val tI),(22,.val tI)],[],[],bg _⟩),
 (100002,⟨[(0,.val (.slice (.int .u32))),(1,.val (.slice (.int .u32)))],[],[],fun _=>0⟩),
 (100010,⟨[(1,.val (.slice (.int .u32))),(5,.own 203 (.int .u32)),(6,.val (.int .u64)),(20,.val (.slice (.int .u32))),(21,.val tI),(22,.val tI)],[],[],fun _=>0⟩),
 (200006,⟨[(5,.own 203 (.int .u32)),(6,.val (.int .u64))],[],[],fun _=>0⟩)]
def zm:az:=⟨[.val (.slice (.int .u32)),.val (.slice (.int .u32))],[.val (.slice (.int .u32))],fun x=>D6 x.1 x.2.1⟩
noncomputable def NC:Cx:=⟨tpr,[],[]⟩
theorem Mi:aN NC KC none Tryz.f116 zm:=by intro x;kernel_rfl
theorem NV:aq tpr 116:=an Tryz.func116 rfl (by decide)
theorem Oc:aG tpr 116 zm:=aB Mi (.nil _) aC Tryz.func116
def G9:List (Nat×Ann):=[(4,⟨[(0,.val (.slice (.int .u32))),(1,.val (.slice (.int .u32))),(5,.val tI)],[],[],bg _⟩),
 (200004,⟨[],[],[],fun _=>0⟩)]
def rE:az:=⟨[.val (.slice (.int .u32)),.val (.slice (.int .u32))],[.val tI],fun x=>se x.1 x.2.1⟩
noncomputable def KP:Cx:=⟨tpr,[],[]⟩
theorem JW:aN KP G9 none Tryz.f117 rE:=by intro x;kernel_rfl
theorem B4:aq tpr 117:=an Tryz.func117 rfl (by decide)
theorem Ci:aG tpr 117 rE:=aB JW (.nil _) aC Tryz.func117
def LL:List (Nat×Ann):=[(4,⟨[(1,.val (.slice (.int .u32))),(5,.own 203 (.int .u32)),(6,.val (.int .u64)),(13,.val (.slice (.int .u32))),(14,.val tI),(15,.val tI)],[],[],bg _⟩),
 (100008,⟨[(1,.val (.slice (.int .u32))),(5,.own 203 (.int .u32)),(9,.val (.int .u64)),(13,.val (.slice (.int .u32))),(14,.val tI),(15,.val tI)],[],[],fun _=>0⟩),
 (200004,⟨[(5,.own 203 (.int .u32))],[],[],fun _=>0⟩)]
def wP:az:=⟨[.val (.slice (.int .u32)),.val (.slice (.int .u32))],[.val (.slice (.int .u32))],fun x=>vi x.1 x.2.1⟩
noncomputable def Pq:Cx:=⟨tpr,[(150,nt)],[]⟩
theorem NL:aN Pq LL none Tryz.f118 wP:=by intro x;kernel_rfl
theorem Gs:aq tpr 118:=an Tryz.func118 rfl (by decide)
theorem Gt:aG tpr 118 wP:=aB NL (.cons w9 w6 (.nil _)) aC Tryz.func118
def Jy:List (Nat×Ann):=[(4,⟨[(2,.ref 2 0),(3,.ref 3 0),(4,.ref 4 0),(5,.ref 5 0),(6,.rowR 12),(7,.val (.slice (.int .u32))),(8,.val tI)],[(2,LS),(3,LS),(4,Ho),(5,Ho)],[.rowC 12 203 (.int .u32)],bg _⟩),
 (200004,⟨[(4,.ref 4 0),(5,.ref 5 0),(6,.rowR 12),(7,.val (.slice (.int .u32)))],[(4,Ho),(5,Ho)],[.rowC 12 203 (.int .u32)],fun _=>0⟩)]
def yw:az:=⟨[.val aS,.val aS],[.val aS,.val aS],fun x=>uF x.1 x.2.1⟩
noncomputable def L6:Cx:=⟨tpr,[(115,lV),(116,Cu),(117,rE),(118,wP),(150,nt)],[]⟩
theorem KZ:aN L6 Jy none Tryz.f82 yw:=by intro x;kernel_rfl
theorem Mz:aq tpr 82:=an Tryz.func82 rfl (by decide)
theorem MR:aG tpr 82 yw:=aB KZ (.cons rT rQ (.cons Q4 QJ (.cons Ci B4 (.cons Gt Gs (.cons w9 w6 (.nil _)))))) aC Tryz.func82
def gY:az:=⟨[.val aS],[.val tI],fun x=>fG x.1⟩
noncomputable def JM:Cx:=⟨tpr,[],[]⟩
theorem HS:aN JM [] none Tryz.f41 gY:=by intro x;kernel_rfl
theorem lY:aq tpr 41:=an Tryz.func41 rfl (by decide)
theorem l6:aG tpr 41 gY:=aB HS (.nil _) aC Tryz.func41
def oM:az:=⟨[.val aS],[.val aS],fun x=>oN x.1⟩
noncomputable def HH:Cx:=⟨tpr,[(115,lV)],[]⟩
theorem GS:aN HH [] none Tryz.f81 oM:=by intro x;kernel_rfl
theorem zZ:aq tpr 81:=an Tryz.func81 rfl (by decide)
theorem Ai:aG tpr 81 oM:=aB GS (.cons rT rQ (.nil _)) aC Tryz.func81
def G8:List (Nat×Ann):=[(5,⟨[(1,.val tI),(2,.ref 2 0),(6,.val (.int .u64)),(14,.val (.slice (.int .u32))),(15,.val tI),(16,.val tI)],[(2,LS)],[],bg _⟩),
 (200005,⟨[(1,.val tI),(2,.ref 2 0),(6,.val (.int .u64))],[(2,LS)],[],fun _=>0⟩)]
def xo:az:=⟨[.val aS,.val tI],[.val tI,.val .bool],fun x=>wR x.1 x.2.1⟩
noncomputable def KO:Cx:=⟨tpr,[],[]⟩
theorem JV:aN KO G8 none Tryz.f121 xo:=by intro x;kernel_rfl
theorem K9:aq tpr 121:=an Tryz.func121 rfl (by decide)
theorem Ln:aG tpr 121 xo:=aB JV (.nil _) aC Tryz.func121
end Go.Proofs.SeatA
end
