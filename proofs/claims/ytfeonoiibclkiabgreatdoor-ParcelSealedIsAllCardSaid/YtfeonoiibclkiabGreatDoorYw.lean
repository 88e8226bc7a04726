/-
  Each function that the law reaches is as its plain model says. No condition.
-/
import Derived.Test.YtfeonoiibclkiabGreatDoorYv
set_option linter.all false
set_option maxRecDepth 100000
noncomputable section
namespace Go.Proofs
abbrev tpr:=Tryz.prog
end Go.Proofs
namespace Go.Proofs.SeatU
open Go.Dn Go.Md Go.Proofs
theorem aN:Tryz.prog.follows .mixedOrders=true:=by kernel_rfl
def aS (X:Cx) (anns:List (Nat×Ann)) (ar:Option Ty) (fn:Func) (sp:aB):Prop:=∀ x,E7 X anns ar fn sp x=sp.m x
theorem aJ {X:Cx} {anns:List (Nat×Ann)} {ar:Option Ty} {fn:Func} {sp:aB} (h:aS X anns ar fn sp) (hX:bR X) (hm:X.P.follows .mixedOrders=true) {f:FuncId} (hf:X.P.funcs[f]? =some fn):aH X.P f sp:=QI hX hm sp anns ar hf fun x _ e=>(h x).trans e
def xN:List CK:=[.val .str,.val .str,.val tI,.val (.slice bV)]
def IY:List (Nat×Ann):=[(3,⟨[(3,.own 56 bE),(7,.val (.slice bV)),(8,.val tI),(9,.val tI)],[],[],aY _⟩),
 (200003,⟨[(3,.own 56 bE)],[],[],fun _=>0⟩)]
def yC:aB:=⟨[.val bF],[.val (.slice bE)],fun x=>v8 x.1⟩
noncomputable def Mg:Cx:=⟨tpr,[],[]⟩
theorem Ky:aS Mg IY none Tryz.f5 yC:=by intro x;kernel_rfl
theorem Mm:av tpr 5:=an Tryz.func5 rfl (by decide)
theorem Mo:aH tpr 5 yC:=aJ Ky (.nil _) aN Tryz.func5
def uB:aB:=⟨[.val .str],[.val .bool],fun x=>gp x.1⟩
noncomputable def Mf:Cx:=⟨tpr,[(99,wq)],[]⟩
theorem Kx:aS Mf [] none Tryz.f54 uB:=by intro x;kernel_rfl
theorem DR:av tpr 54:=an Tryz.func54 rfl (by decide)
theorem DW:aH tpr 54 uB:=aJ Kx (.cons JP Jz (.nil _)) aN Tryz.func54
def kO:aB:=⟨[.val tI,.val tI,.val tI],[.val .bool],fun x=>kM x.1 x.2.1 x.2.2.1⟩
noncomputable def Kq:Cx:=⟨tpr,[],[]⟩
theorem Jg:aS Kq [] none Tryz.f40 kO:=by intro x;kernel_rfl
theorem sQ:av tpr 40:=an Tryz.func40 rfl (by decide)
theorem sV:aH tpr 40 kO:=aJ Jg (.nil _) aN Tryz.func40
def AE:aB:=⟨[.val tI],[.val .bool],fun x=>Ba x.1⟩
noncomputable def M7:Cx:=⟨tpr,[(40,kO)],[]⟩
theorem Mj:aS M7 [] none Tryz.f55 AE:=by intro x;kernel_rfl
theorem Nl:av tpr 55:=an Tryz.func55 rfl (by decide)
theorem NG:aH tpr 55 AE:=aJ Mj (.cons sV sQ (.nil _)) aN Tryz.func55
def pR:aB:=⟨[.val tI],[.val .bool],fun x=>uk x.1⟩
noncomputable def HV:Cx:=⟨tpr,[(40,kO)],[]⟩
theorem GO:aS HV [] none Tryz.f76 pR:=by intro x;kernel_rfl
theorem Ad:av tpr 76:=an Tryz.func76 rfl (by decide)
theorem Am:aH tpr 76 pR:=aJ GO (.cons sV sQ (.nil _)) aN Tryz.func76
def th:aB:=⟨[.val tI],[.val (.slice tI)],fun x=>wI x.1⟩
noncomputable def GC:Cx:=⟨tpr,[],[]⟩
theorem E8:aS GC [] none Tryz.f114 th:=by intro x;kernel_rfl
theorem GW:av tpr 114:=an Tryz.func114 rfl (by decide)
theorem G7:aH tpr 114 th:=aJ E8 (.nil _) aN Tryz.func114
def BQ:List (Nat×Ann):=[(2,⟨[(0,.val (.slice tI)),(1,.val tI),(7,.val tI),(8,.val tI)],[],[],aY _⟩),
 (200002,⟨[],[],[],fun _=>0⟩)]
def ri:aB:=⟨[.val (.slice tI),.val tI],[.val tI],fun x=>uW x.1 x.2.1⟩
noncomputable def Ec:Cx:=⟨tpr,[],[]⟩
theorem CR:aS Ec BQ none Tryz.f61 ri:=by intro x;kernel_rfl
theorem Ep:av tpr 61:=an Tryz.func61 rfl (by decide)
theorem Ev:aH tpr 61 ri:=aJ CR (.nil _) aN Tryz.func61
def ja:aB:=⟨[.val (.slice tI),.val tI],[.val .bool],fun x=>iJ x.1 x.2.1⟩
noncomputable def Bu:Cx:=⟨tpr,[(61,ri)],[]⟩
theorem AX:aS Bu [] none Tryz.f31 ja:=by intro x;kernel_rfl
theorem tO:av tpr 31:=an Tryz.func31 rfl (by decide)
theorem tU:aH tpr 31 ja:=aJ AX (.cons Ev Ep (.nil _)) aN Tryz.func31
def HM:List (Nat×Ann):=[(2,⟨[(0,.val .str),(1,.val (.int .u8)),(2,.val (.int .u8)),(9,.val tI),(10,.val tI)],[],[],aY _⟩),
 (200002,⟨[],[],[],fun _=>0⟩)]
def w9:aB:=⟨[.val .str,.val (.int .u8),.val (.int .u8)],[.val .bool],fun x=>BB x.1 x.2.1 x.2.2.1⟩
noncomputable def Kp:Cx:=⟨tpr,[],[]⟩
theorem Jf:aS Kp HM none Tryz.f109 w9:=by intro x;kernel_rfl
theorem KF:av tpr 109:=an Tryz.func109 rfl (by decide)
theorem KY:aH tpr 109 w9:=aJ Jf (.nil _) aN Tryz.func109
def rE:aB:=⟨[.val .str],[.val .bool],fun x=>rS x.1⟩
noncomputable def Ja:Cx:=⟨tpr,[(109,w9)],[]⟩
theorem Ia:aS Ja [] none Tryz.f74 rE:=by intro x;kernel_rfl
theorem A7:av tpr 74:=an Tryz.func74 rfl (by decide)
theorem Be:aH tpr 74 rE:=aJ Ia (.cons KY KF (.nil _)) aN Tryz.func74
def GA:List (Nat×Ann):=[(3,⟨[(0,.val .str),(3,.val tI),(7,.val tI),(8,.val tI)],[],[],aY _⟩),
 (200003,⟨[(3,.val tI)],[],[],fun _=>0⟩)]
def wj:aB:=⟨[.val .str],[.val .bool],fun x=>zO x.1⟩
noncomputable def I9:Cx:=⟨tpr,[],[]⟩
theorem H9:aS I9 GA none Tryz.f115 wj:=by intro x;kernel_rfl
theorem Jv:av tpr 115:=an Tryz.func115 rfl (by decide)
theorem JL:aH tpr 115 wj:=aJ H9 (.nil _) aN Tryz.func115
def mZ:aB:=⟨[.val tI,.val .str],[.val .bool],fun x=>rq x.1 x.2.1⟩
noncomputable def E0:Cx:=⟨tpr,[(31,ja),(74,rE),(80,uY),(113,Bh),(114,th),(115,wj)],[]⟩
theorem Ee:aS E0 [] none Tryz.f81 mZ:=by intro x;kernel_rfl
theorem xQ:av tpr 81:=an Tryz.func81 rfl (by decide)
theorem xZ:aH tpr 81 mZ:=aJ Ee (.cons tU tO (.cons Be A7 (.cons Al Ac (.cons JM Jw (.cons G7 GW (.cons JL Jv (.nil _))))))) aN Tryz.func81
def sr:aB:=⟨[.val tI,.val .str],[.val .bool,.val tI],fun x=>vB x.1 x.2.1⟩
noncomputable def EZ:Cx:=⟨tpr,[(76,pR),(81,mZ)],[]⟩
theorem Ed:aS EZ [] none Tryz.f134 sr:=by intro x;kernel_rfl
theorem Fq:av tpr 134:=an Tryz.func134 rfl (by decide)
theorem FI:aH tpr 134 sr:=aJ Ed (.cons Am Ad (.cons xZ xQ (.nil _))) aN Tryz.func134
def nO:aB:=⟨[.val .str],[.val .bool],fun x=>oq x.1⟩
noncomputable def GI:Cx:=⟨tpr,[(134,sr)],[]⟩
theorem Fe:aS GI [] none Tryz.f100 nO:=by intro x;kernel_rfl
theorem yH:av tpr 100:=an Tryz.func100 rfl (by decide)
theorem yL:aH tpr 100 nO:=aJ Fe (.cons FI Fq (.nil _)) aN Tryz.func100
def nD:aB:=⟨[.val cz],[.val tI],fun x=>iF x.1⟩
noncomputable def Bq:Cx:=⟨tpr,[(40,kO)],[]⟩
theorem AT:aS Bq [] none Tryz.f135 nD:=by intro x;kernel_rfl
theorem Bz:av tpr 135:=an Tryz.func135 rfl (by decide)
theorem BE:aH tpr 135 nD:=aJ AT (.cons sV sQ (.nil _)) aN Tryz.func135
def HN:List (Nat×Ann):=[(3,⟨[(3,.val tI),(4,.val tI),(5,.val tI)],[],[],aY _⟩),
 (200003,⟨[(3,.val tI)],[],[],fun _=>0⟩)]
def xb:aB:=⟨[.val tI],[.val tI],fun x=>BG x.1⟩
noncomputable def Kr:Cx:=⟨tpr,[],[]⟩
theorem Jh:aS Kr HN none Tryz.f162 xb:=by intro x;kernel_rfl
theorem KG:av tpr 162:=an Tryz.func162 rfl (by decide)
theorem KZ:aH tpr 162 xb:=aJ Jh (.nil _) aN Tryz.func162
def wk:aB:=⟨[.val cz,.val tI,.val tI],[.val .bool],fun x=>vW x.1 x.2.1 x.2.2.1⟩
noncomputable def Jb:Cx:=⟨tpr,[(162,xb)],[]⟩
theorem Ib:aS Jb [] none Tryz.f136 wk:=by intro x;kernel_rfl
theorem Jx:av tpr 136:=an Tryz.func136 rfl (by decide)
theorem JN:aH tpr 136 wk:=aJ Ib (.cons KZ KG (.nil _)) aN Tryz.func136
def iY:aB:=⟨[.val cz,.val .bool],[.val tI],fun x=>cQ x.1 x.2.1⟩
noncomputable def Br:Cx:=⟨tpr,[(135,nD),(136,wk)],[]⟩
theorem AU:aS Br [] none Tryz.f101 iY:=by intro x;kernel_rfl
theorem tN:av tpr 101:=an Tryz.func101 rfl (by decide)
theorem tT:aH tpr 101 iY:=aJ AU (.cons BE Bz (.cons JN Jx (.nil _))) aN Tryz.func101
def IX:List (Nat×Ann):=[(3,⟨[(3,.val tI),(6,.val (.slice tI)),(7,.val tI),(8,.val tI)],[],[],aY _⟩),
 (200003,⟨[(3,.val tI)],[],[],fun _=>0⟩)]
def uA:aB:=⟨[.val (.slice tI)],[.val tI],fun x=>vG x.1⟩
noncomputable def Me:Cx:=⟨tpr,[],[]⟩
theorem Kw:aS Me IX none Tryz.f18 uA:=by intro x;kernel_rfl
theorem DQ:av tpr 18:=an Tryz.func18 rfl (by decide)
theorem DV:aH tpr 18 uA:=aJ Kw (.nil _) aN Tryz.func18
def gP:aB:=⟨[.val bu,.val bu],[.val tI],fun x=>dD x.1 x.2.1⟩
noncomputable def y7:Cx:=⟨tpr,[(18,uA),(19,gM)],[]⟩
theorem yu:aS y7 [] none Tryz.f64 gP:=by intro x;kernel_rfl
theorem ry:av tpr 64:=an Tryz.func64 rfl (by decide)
theorem rz:aH tpr 64 gP:=aJ yu (.cons DV DQ (.cons mM mH (.nil _))) aN Tryz.func64
def yX:List (Nat×Ann):=[(4,⟨[(0,.val (.slice bu)),(9,.val (.slice bu)),(10,.val tI),(11,.val tI)],[],[],aY _⟩),
 (200004,⟨[],[],[],fun _=>0⟩)]
def iD:aB:=⟨[.val (.slice bu)],[.val tI],fun x=>fP x.1⟩
noncomputable def AR:Cx:=⟨tpr,[(54,uB),(64,gP),(101,iY)],[]⟩
theorem zY:aS AR yX none Tryz.f102 iD:=by intro x;kernel_rfl
theorem s7:av tpr 102:=an Tryz.func102 rfl (by decide)
theorem s8:aH tpr 102 iD:=aJ zY (.cons DW DR (.cons rz ry (.cons tT tN (.nil _)))) aN Tryz.func102
def ot:aB:=⟨[.val (.slice bV),.val tI],[.val tI],fun x=>mU x.1 x.2.1⟩
noncomputable def BX:Cx:=⟨tpr,[(100,nO),(101,iY),(102,iD)],[]⟩
theorem Bx:aS BX [] none Tryz.f56 ot:=by intro x;kernel_rfl
theorem B7:av tpr 56:=an Tryz.func56 rfl (by decide)
theorem Cb:aH tpr 56 ot:=aJ Bx (.cons yL yH (.cons tT tN (.cons s8 s7 (.nil _)))) aN Tryz.func56
def pU:aB:=⟨[.val bV,.val .str],[.val tI],fun x=>tg x.1 x.2.1⟩
noncomputable def CF:Cx:=⟨tpr,[(19,gM)],[]⟩
theorem B1:aS CF [] none Tryz.f60 pU:=by intro x;kernel_rfl
theorem C6:av tpr 60:=an Tryz.func60 rfl (by decide)
theorem Dp:aH tpr 60 pU:=aJ B1 (.cons mM mH (.nil _)) aN Tryz.func60
def l9:List (Nat×Ann):=[(3,⟨[(0,.val (.slice bV)),(1,.val .str),(2,.val (.clo 60 .unit)),(8,.val tI),(9,.val tI),(10,.val tI)],[],[],aY _⟩),
 (200003,⟨[(0,.val (.slice bV)),(1,.val .str),(2,.val (.clo 60 .unit)),(8,.val tI),(9,.val tI)],[],[],fun _=>0⟩)]
def dH:aB:=⟨[.val (.slice bV),.val .str,.val (.clo 60 .unit)],[.val tI,.val .bool],fun x=>cA x.1 x.2.1 x.2.2.1⟩
noncomputable def nu:Cx:=⟨tpr,[(60,pU)],[]⟩
theorem mE:aS nu l9 none Tryz.f59 dH:=by intro x;kernel_rfl
theorem nw:av tpr 59:=an Tryz.func59 rfl (by decide)
theorem nA:aH tpr 59 dH:=aJ mE (.cons Dp C6 (.nil _)) aN Tryz.func59
def fJ:aB:=⟨[.val bF,.val .str],[.val tI,.val .bool],fun x=>fU x.1 x.2.1⟩
noncomputable def E4:Cx:=⟨tpr,[(59,dH)],[]⟩
theorem Ei:aS E4 [] none Tryz.f30 fJ:=by intro x;kernel_rfl
theorem je:av tpr 30:=an Tryz.func30 rfl (by decide)
theorem jh:aH tpr 30 fJ:=aJ Ei (.cons nA nw (.nil _)) aN Tryz.func30
def EI:List (Nat×Ann):=[(3,⟨[(1,.val tI),(2,.ref 2 0),(6,.own 3 tI),(7,.val tI)],[(2,xN)],[],aY _⟩),
 (200003,⟨[(6,.own 3 tI)],[],[],fun _=>0⟩)]
def lp:aB:=⟨[.val bF,.val tI],[.val (.slice tI),.val .bool],fun x=>gq x.1 x.2.1⟩
noncomputable def HY:Cx:=⟨tpr,[(30,fJ),(31,ja)],[]⟩
theorem GR:aS HY EI none Tryz.f11 lp:=by intro x;kernel_rfl
theorem uO:av tpr 11:=an Tryz.func11 rfl (by decide)
theorem uR:aH tpr 11 lp:=aJ GR (.cons jh je (.cons tU tO (.nil _))) aN Tryz.func11
def BO:List (Nat×Ann):=[(2,⟨[(1,.ref 1 0),(14,.val (.slice bV)),(15,.val tI),(16,.val tI)],[(1,xN)],[],aY _⟩),
 (9,⟨[(1,.ref 1 0),(37,.val tI),(38,.val tI)],[(1,xN)],[],aY _⟩),
 (16,⟨[(1,.ref 1 0),(52,.val tI),(53,.val tI)],[(1,xN)],[],aY _⟩),
 (200002,⟨[(1,.ref 1 0)],[(1,xN)],[],fun _=>0⟩),
 (200009,⟨[(1,.ref 1 0)],[(1,xN)],[],fun _=>0⟩),
 (200016,⟨[],[],[],fun _=>0⟩)]
def q9:aB:=⟨[.val bF],[.val tI],fun x=>pI x.1⟩
noncomputable def Ea:Cx:=⟨tpr,[(11,lp),(30,fJ)],[]⟩
theorem CP:aS Ea BO none Tryz.f57 q9:=by intro x;kernel_rfl
theorem En:av tpr 57:=an Tryz.func57 rfl (by decide)
theorem Et:aH tpr 57 q9:=aJ CP (.cons uR uO (.cons jh je (.nil _))) aN Tryz.func57
def AQ:List (Nat×Ann):=[(8,⟨[(1,.ref 1 0),(28,.val tI),(29,.val tI)],[(1,xN)],[],aY _⟩),
 (200008,⟨[(1,.ref 1 0)],[(1,xN)],[],fun _=>0⟩)]
def gL:aB:=⟨[.val bF],[.val tI],fun x=>gI x.1⟩
noncomputable def BV:Cx:=⟨tpr,[(54,uB),(55,AE),(56,ot),(57,q9)],[]⟩
theorem Bv:aS BV AQ none Tryz.f28 gL:=by intro x;kernel_rfl
theorem nV:av tpr 28:=an Tryz.func28 rfl (by decide)
theorem nY:aH tpr 28 gL:=aJ Bv (.cons DW DR (.cons NG Nl (.cons Cb B7 (.cons Et En (.nil _))))) aN Tryz.func28
def EL:List (Nat×Ann):=[(1,⟨[(0,.val (.slice (.int .u32)))],[],[],aY _⟩),
 (200001,⟨[(0,.val (.slice (.int .u32)))],[],[],fun _=>0⟩)]
def lz:aB:=⟨[.val (.slice (.int .u32))],[.val (.slice (.int .u32))],fun x=>mz x.1⟩
noncomputable def H7:Cx:=⟨tpr,[],[]⟩
theorem GV:aS H7 EL none Tryz.f121 lz:=by intro x;kernel_rfl
theorem uP:av tpr 121:=an Tryz.func121 rfl (by decide)
theorem uS:aH tpr 121 lz:=aJ GV (.nil _) aN Tryz.func121
def jI:aB:=⟨[.val .bool,.val (.slice (.int .u32))],[.val aA],fun x=>gw x.1 x.2.1⟩
noncomputable def Mi:Cx:=⟨tpr,[(121,lz)],[]⟩
theorem KA:aS Mi [] none Tryz.f89 jI:=by intro x;kernel_rfl
theorem qo:av tpr 89:=an Tryz.func89 rfl (by decide)
theorem qu:aH tpr 89 jI:=aJ KA (.cons uS uP (.nil _)) aN Tryz.func89
end Go.Proofs.SeatU
end
