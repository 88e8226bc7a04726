/-
  Each function that the law reaches is as its plain model says. No condition.
-/
import Derived.Test.YtilaijcbckgmmaaGreatDoorYv
set_option linter.all false
set_option maxRecDepth 100000
noncomputable section
namespace Go.Proofs
abbrev tpr:=Tryz.prog
end Go.Proofs
namespace Go.Proofs.SeatU
open Go.Dn Go.Md Go.Proofs
theorem aL:Tryz.prog.follows .mixedOrders=true:=by kernel_rfl
def aS (X:Cx) (anns:List (Nat×Ann)) (ar:Option Ty) (fn:Func) (sp:aB):Prop:=∀ x,Ir X anns ar fn sp x=sp.m x
theorem aK {X:Cx} {anns:List (Nat×Ann)} {ar:Option Ty} {fn:Func} {sp:aB} (h:aS X anns ar fn sp) (hX:b8 X) (hm:X.P.follows .mixedOrders=true) {f:FuncId} (hf:X.P.funcs[f]? =some fn):aJ X.P f sp:=SQ hX hm sp anns ar hf fun x _ e=>(h x).trans e
def yx:List CK:=[.val .str,.val .str,.val tI,.val (.slice aq)]
def qB:aB:=⟨[.val .str],[.val .bool],fun x=>ij x.1⟩
noncomputable def M1:Cx:=⟨tpr,[(66,wY)],[]⟩
theorem K2:aS M1 [] none Tryz.f27 qB:=by intro x;kernel_rfl
theorem zl:av tpr 27:=ak Tryz.func27 rfl (by decide)
theorem zq:aJ tpr 27 qB:=aK K2 (.cons Kj JY (.nil _)) aL Tryz.func27
def lU:aB:=⟨[.val tI,.val tI,.val tI],[.val .bool],fun x=>lS x.1 x.2.1 x.2.2.1⟩
noncomputable def KW:Cx:=⟨tpr,[],[]⟩
theorem Jz:aS KW [] none Tryz.f58 lU:=by intro x;kernel_rfl
theorem sQ:av tpr 58:=ak Tryz.func58 rfl (by decide)
theorem sV:aJ tpr 58 lU:=aK Jz (.nil _) aL Tryz.func58
def A0:aB:=⟨[.val tI],[.val .bool],fun x=>BA x.1⟩
noncomputable def N1:Cx:=⟨tpr,[(58,lU)],[]⟩
theorem M8:aS N1 [] none Tryz.f28 A0:=by intro x;kernel_rfl
theorem Ol:av tpr 28:=ak Tryz.func28 rfl (by decide)
theorem OI:aJ tpr 28 A0:=aK M8 (.cons sV sQ (.nil _)) aL Tryz.func28
def pQ:aB:=⟨[.val tI],[.val .bool],fun x=>mL x.1⟩
noncomputable def Ii:Cx:=⟨tpr,[(58,lU)],[]⟩
theorem G9:aS Ii [] none Tryz.f87 pQ:=by intro x;kernel_rfl
theorem Az:av tpr 87:=ak Tryz.func87 rfl (by decide)
theorem AJ:aJ tpr 87 pQ:=aK G9 (.cons sV sQ (.nil _)) aL Tryz.func87
def tJ:aB:=⟨[.val tI],[.val (.slice tI)],fun x=>xm x.1⟩
noncomputable def GR:Cx:=⟨tpr,[],[]⟩
theorem Fi:aS GR [] none Tryz.f133 tJ:=by intro x;kernel_rfl
theorem Hl:av tpr 133:=ak Tryz.func133 rfl (by decide)
theorem Hu:aJ tpr 133 tJ:=aK Fi (.nil _) aL Tryz.func133
def Cj:List (Nat×Ann):=[(2,⟨[(0,.val (.slice tI)),(1,.val tI),(7,.val tI),(8,.val tI)],[],[],aT _⟩),
 (200002,⟨[],[],[],fun _=>0⟩)]
def qY:aB:=⟨[.val (.slice tI),.val tI],[.val tI],fun x=>vp x.1 x.2.1⟩
noncomputable def Ew:Cx:=⟨tpr,[],[]⟩
theorem Dd:aS Ew Cj none Tryz.f150 qY:=by intro x;kernel_rfl
theorem EH:av tpr 150:=ak Tryz.func150 rfl (by decide)
theorem EK:aJ tpr 150 qY:=aK Dd (.nil _) aL Tryz.func150
def jY:aB:=⟨[.val (.slice tI),.val tI],[.val .bool],fun x=>jH x.1 x.2.1⟩
noncomputable def BS:Cx:=⟨tpr,[(150,qY)],[]⟩
theorem Bn:aS BS [] none Tryz.f122 jY:=by intro x;kernel_rfl
theorem uf:av tpr 122:=ak Tryz.func122 rfl (by decide)
theorem uk:aJ tpr 122 jY:=aK Bn (.cons EK EH (.nil _)) aL Tryz.func122
def H7:List (Nat×Ann):=[(2,⟨[(0,.val .str),(1,.val (.int .u8)),(2,.val (.int .u8)),(9,.val tI),(10,.val tI)],[],[],aT _⟩),
 (200002,⟨[],[],[],fun _=>0⟩)]
def xR:aB:=⟨[.val .str,.val (.int .u8),.val (.int .u8)],[.val .bool],fun x=>B0 x.1 x.2.1 x.2.2.1⟩
noncomputable def KV:Cx:=⟨tpr,[],[]⟩
theorem Jy:aS KV H7 none Tryz.f128 xR:=by intro x;kernel_rfl
theorem Ld:av tpr 128:=ak Tryz.func128 rfl (by decide)
theorem Ly:aJ tpr 128 xR:=aK Jy (.nil _) aL Tryz.func128
def rj:aB:=⟨[.val .str],[.val .bool],fun x=>rQ x.1⟩
noncomputable def Jr:Cx:=⟨tpr,[(128,xR)],[]⟩
theorem Iu:aS Jr [] none Tryz.f85 rj:=by intro x;kernel_rfl
theorem Bx:av tpr 85:=ak Tryz.func85 rfl (by decide)
theorem BE:aJ tpr 85 rj:=aK Iu (.cons Ly Ld (.nil _)) aL Tryz.func85
def GN:List (Nat×Ann):=[(3,⟨[(0,.val .str),(3,.val tI),(7,.val tI),(8,.val tI)],[],[],aT _⟩),
 (200003,⟨[(3,.val tI)],[],[],fun _=>0⟩)]
def wU:aB:=⟨[.val .str],[.val .bool],fun x=>Ao x.1⟩
noncomputable def Jq:Cx:=⟨tpr,[],[]⟩
theorem It:aS Jq GN none Tryz.f134 wU:=by intro x;kernel_rfl
theorem JS:av tpr 134:=ak Tryz.func134 rfl (by decide)
theorem Kc:aJ tpr 134 wU:=aK It (.nil _) aL Tryz.func134
def nv:aB:=⟨[.val tI,.val .str],[.val .bool],fun x=>kI x.1 x.2.1⟩
noncomputable def Fb:Cx:=⟨tpr,[(85,rj),(91,vr),(122,jY),(132,BJ),(133,tJ),(134,wU)],[]⟩
theorem Ez:aS Fb [] none Tryz.f92 nv:=by intro x;kernel_rfl
theorem yE:av tpr 92:=ak Tryz.func92 rfl (by decide)
theorem yO:aJ tpr 92 nv:=aK Ez (.cons BE Bx (.cons AI Ay (.cons uk uf (.cons Ke JT (.cons Hu Hl (.cons Kc JS (.nil _))))))) aL Tryz.func92
def su:aB:=⟨[.val tI,.val .str],[.val .bool,.val tI],fun x=>q7 x.1 x.2.1⟩
noncomputable def Fa:Cx:=⟨tpr,[(87,pQ),(92,nv)],[]⟩
theorem Ey:aS Fa [] none Tryz.f117 su:=by intro x;kernel_rfl
theorem FA:av tpr 117:=ak Tryz.func117 rfl (by decide)
theorem FN:aJ tpr 117 su:=aK Ey (.cons AJ Az (.cons yO yE (.nil _))) aL Tryz.func117
def tN:aB:=⟨[.val .str],[.val .bool],fun x=>oH x.1⟩
noncomputable def GX:Cx:=⟨tpr,[(117,su)],[]⟩
theorem Fo:aS GX [] none Tryz.f67 tN:=by intro x;kernel_rfl
theorem Hr:av tpr 67:=ak Tryz.func67 rfl (by decide)
theorem Hz:aJ tpr 67 tN:=aK Fo (.cons FN FA (.nil _)) aL Tryz.func67
def jX:aB:=⟨[.val aR],[.val tI],fun x=>gP x.1⟩
noncomputable def BO:Cx:=⟨tpr,[(58,lU)],[]⟩
theorem Bi:aS BO [] none Tryz.f43 jX:=by intro x;kernel_rfl
theorem uc:av tpr 43:=ak Tryz.func43 rfl (by decide)
theorem uh:aJ tpr 43 jX:=aK Bi (.cons sV sQ (.nil _)) aL Tryz.func43
def H8:List (Nat×Ann):=[(3,⟨[(3,.val tI),(4,.val tI),(5,.val tI)],[],[],aT _⟩),
 (200003,⟨[(3,.val tI)],[],[],fun _=>0⟩)]
def xS:aB:=⟨[.val tI],[.val tI],fun x=>B5 x.1⟩
noncomputable def KX:Cx:=⟨tpr,[],[]⟩
theorem JB:aS KX H8 none Tryz.f149 xS:=by intro x;kernel_rfl
theorem Lf:av tpr 149:=ak Tryz.func149 rfl (by decide)
theorem LA:aJ tpr 149 xS:=aK JB (.nil _) aL Tryz.func149
def wV:aB:=⟨[.val aR,.val tI,.val tI],[.val .bool],fun x=>wE x.1 x.2.1 x.2.2.1⟩
noncomputable def Js:Cx:=⟨tpr,[(149,xS)],[]⟩
theorem Iv:aS Js [] none Tryz.f118 wV:=by intro x;kernel_rfl
theorem JU:av tpr 118:=ak Tryz.func118 rfl (by decide)
theorem Kf:aJ tpr 118 wV:=aK Iv (.cons LA Lf (.nil _)) aL Tryz.func118
def ia:aB:=⟨[.val aR,.val .bool],[.val tI],fun x=>cc x.1 x.2.1⟩
noncomputable def BP:Cx:=⟨tpr,[(43,jX),(118,wV)],[]⟩
theorem Bj:aS BP [] none Tryz.f68 ia:=by intro x;kernel_rfl
theorem nG:av tpr 68:=ak Tryz.func68 rfl (by decide)
theorem nK:aJ tpr 68 ia:=aK Bj (.cons uh uc (.cons Kf JU (.nil _))) aL Tryz.func68
def Jd:List (Nat×Ann):=[(3,⟨[(3,.val tI),(6,.val (.slice tI)),(7,.val tI),(8,.val tI)],[],[],aT _⟩),
 (200003,⟨[(3,.val tI)],[],[],fun _=>0⟩)]
def uS:aB:=⟨[.val (.slice tI)],[.val tI],fun x=>vY x.1⟩
noncomputable def M0:Cx:=⟨tpr,[],[]⟩
theorem K1:aS M0 Jd none Tryz.f72 uS:=by intro x;kernel_rfl
theorem Eh:av tpr 72:=ak Tryz.func72 rfl (by decide)
theorem El:aJ tpr 72 uS:=aK K1 (.nil _) aL Tryz.func72
def lN:aB:=⟨[.val iq,.val iq],[.val tI],fun x=>gX x.1 x.2.1⟩
noncomputable def zS:Cx:=⟨tpr,[(26,kF),(72,uS)],[]⟩
theorem zk:aS zS [] none Tryz.f119 lN:=by intro x;kernel_rfl
theorem zU:av tpr 119:=ak Tryz.func119 rfl (by decide)
theorem zW:aJ tpr 119 lN:=aK zk (.cons rW rO (.cons El Eh (.nil _))) aL Tryz.func119
def zQ:List (Nat×Ann):=[(4,⟨[(0,.val (.slice iq)),(9,.val (.slice iq)),(10,.val tI),(11,.val tI)],[],[],aT _⟩),
 (200004,⟨[],[],[],fun _=>0⟩)]
def mJ:aB:=⟨[.val (.slice iq)],[.val tI],fun x=>je x.1⟩
noncomputable def Bg:Cx:=⟨tpr,[(27,qB),(68,ia),(119,lN)],[]⟩
theorem Ar:aS Bg zQ none Tryz.f69 mJ:=by intro x;kernel_rfl
theorem Bo:av tpr 69:=ak Tryz.func69 rfl (by decide)
theorem Bq:aJ tpr 69 mJ:=aK Ar (.cons zq zl (.cons nK nG (.cons zW zU (.nil _)))) aL Tryz.func69
def oJ:aB:=⟨[.val (.slice aq),.val tI],[.val tI],fun x=>nk x.1 x.2.1⟩
noncomputable def Cr:Cx:=⟨tpr,[(67,tN),(68,ia),(69,mJ)],[]⟩
theorem BV:aS Cr [] none Tryz.f29 oJ:=by intro x;kernel_rfl
theorem CB:av tpr 29:=ak Tryz.func29 rfl (by decide)
theorem CG:aJ tpr 29 oJ:=aK BV (.cons Hz Hr (.cons nK nG (.cons Bq Bo (.nil _)))) aL Tryz.func29
def pU:aB:=⟨[.val aq,.val .str],[.val tI],fun x=>tF x.1 x.2.1⟩
noncomputable def C7:Cx:=⟨tpr,[(26,kF)],[]⟩
theorem Cu:aS C7 [] none Tryz.f121 pU:=by intro x;kernel_rfl
theorem Ds:av tpr 121:=ak Tryz.func121 rfl (by decide)
theorem DG:aJ tpr 121 pU:=aK Cu (.cons rW rO (.nil _)) aL Tryz.func121
def mE:List (Nat×Ann):=[(3,⟨[(0,.val (.slice aq)),(1,.val .str),(2,.val (.clo 121 .unit)),(8,.val tI),(9,.val tI),(10,.val tI)],[],[],aT _⟩),
 (200003,⟨[(0,.val (.slice aq)),(1,.val .str),(2,.val (.clo 121 .unit)),(8,.val tI),(9,.val tI)],[],[],fun _=>0⟩)]
def eS:aB:=⟨[.val (.slice aq),.val .str,.val (.clo 121 .unit)],[.val tI,.val .bool],fun x=>cG x.1 x.2.1 x.2.2.1⟩
noncomputable def nE:Cx:=⟨tpr,[(121,pU)],[]⟩
theorem mX:aS nE mE none Tryz.f120 eS:=by intro x;kernel_rfl
theorem nH:av tpr 120:=ak Tryz.func120 rfl (by decide)
theorem nL:aJ tpr 120 eS:=aK mX (.cons DG Ds (.nil _)) aL Tryz.func120
def kD:aB:=⟨[.val fP,.val .str],[.val tI,.val .bool],fun x=>kS x.1 x.2.1⟩
noncomputable def Fe:Cx:=⟨tpr,[(120,eS)],[]⟩
theorem EB:aS Fe [] none Tryz.f70 kD:=by intro x;kernel_rfl
theorem rL:av tpr 70:=ak Tryz.func70 rfl (by decide)
theorem rT:aJ tpr 70 kD:=aK EB (.cons nL nH (.nil _)) aL Tryz.func70
def EW:List (Nat×Ann):=[(3,⟨[(1,.val tI),(2,.ref 2 0),(6,.own 3 tI),(7,.val tI)],[(2,yx)],[],aT _⟩),
 (200003,⟨[(6,.own 3 tI)],[],[],fun _=>0⟩)]
def pR:aB:=⟨[.val fP,.val tI],[.val (.slice tI),.val .bool],fun x=>kW x.1 x.2.1⟩
noncomputable def Ik:Cx:=⟨tpr,[(70,kD),(122,jY)],[]⟩
theorem Hf:aS Ik EW none Tryz.f71 pR:=by intro x;kernel_rfl
theorem AA:av tpr 71:=ak Tryz.func71 rfl (by decide)
theorem AK:aJ tpr 71 pR:=aK Hf (.cons rT rL (.cons uk uf (.nil _))) aL Tryz.func71
def Ci:List (Nat×Ann):=[(2,⟨[(1,.ref 1 0),(14,.val (.slice aq)),(15,.val tI),(16,.val tI)],[(1,yx)],[],aT _⟩),
 (9,⟨[(1,.ref 1 0),(37,.val tI),(38,.val tI)],[(1,yx)],[],aT _⟩),
 (16,⟨[(1,.ref 1 0),(52,.val tI),(53,.val tI)],[(1,yx)],[],aT _⟩),
 (200002,⟨[(1,.ref 1 0)],[(1,yx)],[],fun _=>0⟩),
 (200009,⟨[(1,.ref 1 0)],[(1,yx)],[],fun _=>0⟩),
 (200016,⟨[],[],[],fun _=>0⟩)]
def qX:aB:=⟨[.val fP],[.val tI],fun x=>pM x.1⟩
noncomputable def Ev:Cx:=⟨tpr,[(70,kD),(71,pR)],[]⟩
theorem Dc:aS Ev Ci none Tryz.f30 qX:=by intro x;kernel_rfl
theorem EG:av tpr 30:=ak Tryz.func30 rfl (by decide)
theorem EJ:aJ tpr 30 qX:=aK Dc (.cons rT rL (.cons AK AA (.nil _))) aL Tryz.func30
def Be:List (Nat×Ann):=[(8,⟨[(1,.ref 1 0),(28,.val tI),(29,.val tI)],[(1,yx)],[],aT _⟩),
 (200008,⟨[(1,.ref 1 0)],[(1,yx)],[],fun _=>0⟩)]
def gf:aB:=⟨[.val fP],[.val tI],fun x=>gu x.1⟩
noncomputable def Cp:Cx:=⟨tpr,[(27,qB),(28,A0),(29,oJ),(30,qX)],[]⟩
theorem BT:aS Cp Be none Tryz.f6 gf:=by intro x;kernel_rfl
theorem kK:av tpr 6:=ak Tryz.func6 rfl (by decide)
theorem kM:aJ tpr 6 gf:=aK BT (.cons zq zl (.cons OI Ol (.cons CG CB (.cons EJ EG (.nil _))))) aL Tryz.func6
def nQ:aB:=⟨[.val aq],[.val .bool],fun x=>qU x.1⟩
noncomputable def BR:Cx:=⟨tpr,[],[]⟩
theorem Bl:aS BR [] none Tryz.f42 nQ:=by intro x;kernel_rfl
theorem BY:av tpr 42:=ak Tryz.func42 rfl (by decide)
theorem B4:aJ tpr 42 nQ:=aK Bl (.nil _) aL Tryz.func42
def tL:aB:=⟨[.val aq,.val (.ptr .str)],[.val .bool],fun x=>xM x.1 x.2.1⟩
noncomputable def GV:Cx:=⟨tpr,[],[]⟩
theorem Fl:aS GV [] none Tryz.f23 tL:=by intro x;kernel_rfl
theorem Hp:av tpr 23:=ak Tryz.func23 rfl (by decide)
theorem Hw:aJ tpr 23 tL:=aK Fl (.nil _) aL Tryz.func23
def u7:List (Nat×Ann):=[(2,⟨[(0,.val (.slice aq)),(1,.val (.clo 42 .unit)),(7,.val tI),(8,.val tI)],[],[],aT _⟩),
 (200002,⟨[],[],[],fun _=>0⟩)]
def jh:aB:=⟨[.val (.slice aq),.val (.clo 42 .unit)],[.val tI],fun x=>kC x.1 x.2.1⟩
noncomputable def wg:Cx:=⟨tpr,[(42,nQ)],[]⟩
theorem vR:aS wg u7 none Tryz.f62 jh:=by intro x;kernel_rfl
theorem wo:av tpr 62:=ak Tryz.func62 rfl (by decide)
theorem wD:aJ tpr 62 jh:=aK vR (.cons B4 BY (.nil _)) aL Tryz.func62
def tv:List (Nat×Ann):=[(2,⟨[(0,.val (.slice aq)),(1,.val (.clo 23 (.ptr .str))),(7,.val tI),(8,.val tI)],[],[],aT _⟩),
 (200002,⟨[],[],[],fun _=>0⟩)]
def iN:aB:=⟨[.val (.slice aq),.val (.clo 23 (.ptr .str))],[.val tI],fun x=>jw x.1 x.2.1⟩
noncomputable def u9:Cx:=⟨tpr,[(23,tL)],[]⟩
theorem tZ:aS u9 tv none Tryz.f62 iN:=by intro x;kernel_rfl
theorem vf:av tpr 62:=ak Tryz.func62 rfl (by decide)
theorem vh:aJ tpr 62 iN:=aK tZ (.cons Hw Hp (.nil _)) aL Tryz.func62
def ic:aB:=⟨[.val (.slice aq),.val (.clo 42 .unit)],[.val .bool],fun x=>fW x.1 x.2.1⟩
noncomputable def tY:Cx:=⟨tpr,[(62,jh)],[]⟩
theorem tw:aS tY [] none Tryz.f22 ic:=by intro x;kernel_rfl
theorem ud:av tpr 22:=ak Tryz.func22 rfl (by decide)
theorem uj:aJ tpr 22 ic:=aK tw (.cons wD wo (.nil _)) aL Tryz.func22
def gJ:aB:=⟨[.val (.slice aq),.val (.clo 23 (.ptr .str))],[.val .bool],fun x=>fI x.1 x.2.1⟩
noncomputable def sO:Cx:=⟨tpr,[(62,iN)],[]⟩
theorem rK:aS sO [] none Tryz.f22 gJ:=by intro x;kernel_rfl
theorem sS:av tpr 22:=ak Tryz.func22 rfl (by decide)
theorem sW:aJ tpr 22 gJ:=aK rK (.cons vh vf (.nil _)) aL Tryz.func22
end Go.Proofs.SeatU
end
