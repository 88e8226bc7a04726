/-
  Each function that the law reaches is as its plain model says. No condition.
-/
import Derived.Test.YtilaijcbckgmmabGreatDoorYv
set_option maxRecDepth 100000
noncomputable section
namespace Go.Proofs
abbrev tpr:=Tryz.prog
end Go.Proofs
namespace Go.Proofs.SeatA
open Go.Dn Go.Md Go.Proofs
theorem ab1:Tryz.prog.follows .mixedOrders=true:=by kernel_rfl
def ZR (X:Cx) (anns:List (Nat×Ann)) (ar:Option Ty) (fn:Func) (sp:av):Prop:=∀ x,Qs X anns ar fn sp x=sp.m x
theorem Jo {X:Cx} {anns:List (Nat×Ann)} {ar:Option Ty} {fn:Func} {sp:av} (h:ZR X anns ar fn sp) (hX:bX X) (hm:X.P.follows .mixedOrders=true) {f:FuncId} (hf:X.P.funcs[f]? =some fn):pJ X.P f sp:=abF hX hm sp anns ar hf fun x _ e=>(h x).trans e
def FB (f:Nat) (sp:av):Prop:=pJ tpr f sp/\jb tpr f
theorem fbk (X:Cx) (anns:List (Nat×Ann)) (ar:Option Ty) {fn:Func} {sp:av} {f:Nat} (h:ZR X anns ar fn sp) (hX:bX X) (hf:tpr.funcs[f]? =some fn) (e:X.P=tpr:=by exact rfl) (h1:fn.body.isSome=true:=by exact rfl) (h2:fn.name≠ "runtime.NumGoroutine" :=by decide):FB f sp:=by
 have k:=Jo h hX (by rw[e];exact ab1) (by rw[e];exact hf)
 rw[e] at k
 exact⟨k,sR hf h1 h2⟩
theorem cz {f:Nat} {sp:av} {r:List (Nat×av)} {ks:List (Nat×zS)} (h:FB f sp) (t:bX ⟨tpr,r,ks⟩):bX ⟨tpr,(f,sp)::r,ks⟩:= .cons h.1 h.2 t
def Mu:List CK:=[.val .bool,.own 161 (.int .u32)]
def FJ:List CK:=[.val .bool,.val (.slice (.int .u32))]
def abh:List CK:=[.val .bool,.val .bool,.val .bool,.val .bool,.val .bool,.val .bool]
def WA:List CK:=[.val .str,.val .str,.val .str,.val tI,.val tI,.val (.slice fh),.val (.slice az),.map tI .hnd,.own 188 an,.own 235 cO,.val tI]
def abi:List CK:=[.val .str,.val .str,.val .str,.val tI,.val tI,.val (.slice fh),.val (.slice az),.mapR 10,.own 188 an,.own 235 cO,.val tI]
def abj:List CK:=[.val .str,.val .str,.val .str,.val tI,.val tI,.val (.slice fh),.val (.slice az),.mapR 10250003,.rowR 10250004,.rowR 10250005,.val tI]
def Mv:List CK:=[.val .str,.val .str,.val .str,.val tI,.val tI,.val (.slice fh)]
def Rp:List CK:=[.val .str,.val .str,.val tI,.val tI,.val tI,.val .bool,.val (.slice cE),.val (.slice c9),.val (.slice dL)]
def Mw:List CK:=[.val tI,.val tI,.val tI,.val tI,.val tI,.val .str,.val tI,.val tI,.val .str,.val tI,.val tI,.val tI,.val tI]
def yL:List CK:=[.val tI,.val tI]
def gN:av:=⟨[.val .str],[.val .bool],fun x=>cK x.1⟩
noncomputable def VB:Cx:=⟨tpr,[(61,BO)],[]⟩
theorem iO:FB 27 gN:=fbk VB [] none (by intro x;kernel_rfl) (.cons Sm R9 (.nil _)) Tryz.func27
def dO:av:=⟨[.val tI,.val tI,.val tI],[.val .bool],fun x=>bP x.1 x.2.1 x.2.2.1⟩
noncomputable def Tw:Cx:=⟨tpr,[],[]⟩
theorem ez:FB 37 dO:=fbk Tw [] none (by intro x;kernel_rfl) (.nil _) Tryz.func37
def iN:av:=⟨[.val tI],[.val .bool],fun x=>iw x.1⟩
noncomputable def WG:Cx:=⟨tpr,[(37,dO)],[]⟩
theorem jD:FB 12 iN:=fbk WG [] none (by intro x;kernel_rfl) (cz ez (.nil _)) Tryz.func12
def eP:av:=⟨[.val an],[.val tI],fun x=>cA x.1⟩
noncomputable def Ik:Cx:=⟨tpr,[(37,dO)],[]⟩
theorem fP:FB 121 eP:=fbk Ik [] none (by intro x;kernel_rfl) (cz ez (.nil _)) Tryz.func121
def P4:List (Nat×Ann):=[(3,⟨[(3,.val tI),(4,.val tI),(5,.val tI)],[],[],aN _⟩),
 (200003,⟨[(3,.val tI)],[],[],fun _=>0⟩)]
def Cu:av:=⟨[.val tI],[.val tI],fun x=>CQ x.1⟩
noncomputable def Tx:Cx:=⟨tpr,[],[]⟩
theorem Jw:FB 183 Cu:=fbk Tx P4 none (by intro x;kernel_rfl) (.nil _) Tryz.func183
def BN:av:=⟨[.val an,.val tI,.val tI],[.val .bool],fun x=>rQ x.1 x.2.1 x.2.2.1⟩
noncomputable def Rz:Cx:=⟨tpr,[(183,Cu)],[]⟩
theorem Hz:FB 157 BN:=fbk Rz [] none (by intro x;kernel_rfl) (cz Jw (.nil _)) Tryz.func157
def qQ:av:=⟨[.val an,.val .bool],[.val tI],fun x=>kJ x.1 x.2.1⟩
noncomputable def Io:Cx:=⟨tpr,[(121,eP),(157,BN)],[]⟩
theorem yP:FB 104 qQ:=fbk Io [] none (by intro x;kernel_rfl) (cz fP (cz Hz (.nil _))) Tryz.func104
def oQ:av:=⟨[.val an],[.val tI],fun x=>iY x.1⟩
noncomputable def LZ:Cx:=⟨tpr,[(121,eP),(157,BN)],[]⟩
theorem uN:FB 105 oQ:=fbk LZ [] none (by intro x;kernel_rfl) (cz fP (cz Hz (.nil _))) Tryz.func105
def J9:List (Nat×Ann):=[(300004,⟨[(17,.val .bool)],[],[],fun _=>0⟩)]
def DQ:av:=⟨[.val aY,.val tI],[.val tI],fun x=>vi x.1 x.2.1⟩
noncomputable def ML:Cx:=⟨tpr,[(27,gN),(37,dO),(104,qQ),(105,oQ)],[]⟩
theorem M5:FB 57 DQ:=fbk ML J9 none (by intro x;kernel_rfl) (cz iO (cz ez (cz yP (cz uN (.nil _))))) Tryz.func57
def I6:List (Nat×Ann):=[(12,⟨[(1,.ref 1 0),(50,.val tI),(51,.val tI)],[(1,Mv)],[],aN _⟩),
 (200012,⟨[],[],[],fun _=>0⟩)]
def kN:av:=⟨[.val aY],[.val tI],fun x=>iX x.1⟩
noncomputable def LY:Cx:=⟨tpr,[(12,iN),(27,gN),(37,dO),(57,DQ)],[]⟩
theorem oH:FB 25 kN:=fbk LY I6 none (by intro x;kernel_rfl) (cz jD (cz iO (cz ez (cz M5 (.nil _))))) Tryz.func25
def wQ:av:=⟨[.val tI],[.val .bool],fun x=>p9 x.1⟩
noncomputable def MK:Cx:=⟨tpr,[],[]⟩
theorem Dq:FB 138 wQ:=fbk MK [] none (by intro x;kernel_rfl) (.nil _) Tryz.func138
def HT:av:=⟨[.val tI],[.val XQ],fun x=>Bg x.1⟩
noncomputable def Ry:Cx:=⟨tpr,[],[]⟩
theorem RU:FB 175 HT:=fbk Ry [] none (by intro x;kernel_rfl) (.nil _) Tryz.func175
def Ka:List (Nat×Ann):=[(100003,⟨[(1,.ref 1 0),(3,.ref 3 0)],[(1,Mw),(3,abh)],[],fun _=>0⟩),
 (100007,⟨[(1,.ref 1 0),(3,.ref 3 0)],[(1,Mw),(3,abh)],[],fun _=>0⟩),
 (300011,⟨[(30,.val .bool)],[],[],fun _=>0⟩),
 (300013,⟨[(39,.val .bool)],[],[],fun _=>0⟩),
 (300015,⟨[(58,.val .bool)],[],[],fun _=>0⟩),
 (300017,⟨[(66,.val .bool)],[],[],fun _=>0⟩)]
def DR:av:=⟨[.val az],[.val tI],fun x=>vj x.1⟩
noncomputable def MN:Cx:=⟨tpr,[(12,iN),(27,gN),(37,dO),(104,qQ),(105,oQ),(175,HT)],[]⟩
theorem M7:FB 139 DR:=fbk MN Ka none (by intro x;kernel_rfl) (cz jD (cz iO (cz ez (cz yP (cz uN (cz RU (.nil _))))))) Tryz.func139
def DP:av:=⟨[.val az],[.val tI],fun x=>vh x.1⟩
noncomputable def MJ:Cx:=⟨tpr,[(12,iN),(37,dO),(138,wQ),(139,DR)],[]⟩
theorem M4:FB 74 DP:=fbk MJ [] none (by intro x;kernel_rfl) (cz jD (cz ez (cz Dq (cz M7 (.nil _))))) Tryz.func74
def Hh:List (Nat×Ann):=[(2,⟨[(22,.rowR 22),(23,.val tI),(24,.val tI)],[],[.rowC 22 3 tI],aN _⟩),
 (200002,⟨[],[],[],fun _=>0⟩)]
def AG:av:=⟨[.val az,.val az],[.val tI],fun x=>lM x.1 x.2.1⟩
noncomputable def Jj:Cx:=⟨tpr,[],[]⟩
theorem Ju:FB 75 AG:=fbk Jj Hh none (by intro x;kernel_rfl) (.nil _) Tryz.func75
def I5:List (Nat×Ann):=[(5,⟨[(0,.val (.slice az)),(3,.ref 3 0),(11,.val (.slice az)),(12,.val tI),(13,.val tI)],[(3,[.val tI,.val tI,.val tI])],[],aN _⟩),
 (200005,⟨[],[],[],fun _=>0⟩),
 (300010,⟨[(34,.val .bool)],[],[],fun _=>0⟩)]
def oP:av:=⟨[.val (.slice az)],[.val tI],fun x=>kQ x.1⟩
noncomputable def LX:Cx:=⟨tpr,[(74,DP),(75,AG)],[]⟩
theorem uM:FB 35 oP:=fbk LX I5 none (by intro x;kernel_rfl) (cz M4 (cz Ju (.nil _))) Tryz.func35
def qP:av:=⟨[.val an],[.val tI],fun x=>kF x.1⟩
noncomputable def Il:Cx:=⟨tpr,[(37,dO)],[]⟩
theorem yO:FB 36 qP:=fbk Il [] none (by intro x;kernel_rfl) (cz ez (.nil _)) Tryz.func36
def HR:av:=⟨[.val tI],[.val .bool],fun x=>FC x.1⟩
noncomputable def Rt:Cx:=⟨tpr,[(37,dO)],[]⟩
theorem RS:FB 62 HR:=fbk Rt [] none (by intro x;kernel_rfl) (cz ez (.nil _)) Tryz.func62
def Rb:List (Nat×Ann):=[(3,⟨[(3,.val tI),(4,.val tI),(5,.val tI)],[],[],aN _⟩),
 (200003,⟨[(3,.val tI)],[],[],fun _=>0⟩)]
def zI:av:=⟨[.val tI],[.val tI],fun x=>xm x.1⟩
noncomputable def VA:Cx:=⟨tpr,[],[]⟩
theorem Ea:FB 167 zI:=fbk VA Rb none (by intro x;kernel_rfl) (.nil _) Tryz.func167
def qw:av:=⟨[.val an,.val tI],[.val .bool],fun x=>eE x.1 x.2.1⟩
noncomputable def Rw:Cx:=⟨tpr,[(37,dO),(167,zI)],[]⟩
theorem ve:FB 122 qw:=fbk Rw [] none (by intro x;kernel_rfl) (cz ez (cz Ea (.nil _))) Tryz.func122
def J8:List (Nat×Ann):=[(6,⟨[(0,.val (.slice cE)),(12,.val (.slice cE)),(13,.val tI),(14,.val tI)],[],[],aN _⟩),
 (200006,⟨[],[],[],fun _=>0⟩)]
def DO:av:=⟨[.val (.slice cE)],[.val tI],fun x=>l8 x.1⟩
noncomputable def MI:Cx:=⟨tpr,[(27,gN),(121,eP),(122,qw)],[]⟩
theorem M3:FB 63 DO:=fbk MI J8 none (by intro x;kernel_rfl) (cz iO (cz fP (cz ve (.nil _)))) Tryz.func63
def GP:av:=⟨[.val cE,.val .str],[.val tI],fun x=>D6 x.1 x.2.1⟩
noncomputable def Qi:Cx:=⟨tpr,[(198,wV)],[]⟩
theorem Qw:FB 197 GP:=fbk Qi [] none (by intro x;kernel_rfl) (.cons NG Nl (.nil _)) Tryz.func197
def qC:List (Nat×Ann):=[(3,⟨[(0,.val (.slice cE)),(1,.val .str),(2,.val (.clo 197 .unit)),(8,.val tI),(9,.val tI),(10,.val tI)],[],[],aN _⟩),
 (200003,⟨[(0,.val (.slice cE)),(1,.val .str),(2,.val (.clo 197 .unit)),(8,.val tI),(9,.val tI)],[],[],fun _=>0⟩)]
def jj:av:=⟨[.val (.slice cE),.val .str,.val (.clo 197 .unit)],[.val tI,.val .bool],fun x=>dP x.1 x.2.1 x.2.2.1⟩
noncomputable def rH:Cx:=⟨tpr,[(197,GP)],[]⟩
theorem rL:FB 196 jj:=fbk rH qC none (by intro x;kernel_rfl) (cz Qw (.nil _)) Tryz.func196
def JR:av:=⟨[.val (.slice cE),.val .str],[.val tI,.val .bool],fun x=>CL x.1 x.2.1⟩
noncomputable def Tv:Cx:=⟨tpr,[(196,jj)],[]⟩
theorem TN:FB 168 JR:=fbk Tv [] none (by intro x;kernel_rfl) (cz rL (.nil _)) Tryz.func168
def BK:av:=⟨[.val aA,.val .str],[.val .bool],fun x=>iG x.1 x.2.1⟩
noncomputable def Rx:Cx:=⟨tpr,[(168,JR)],[]⟩
theorem Hy:FB 123 BK:=fbk Rx [] none (by intro x;kernel_rfl) (cz TN (.nil _)) Tryz.func123
def I3:List (Nat×Ann):=[(4,⟨[(2,.val .bool),(3,.ref 3 0),(13,.val (.slice dL)),(14,.val tI),(15,.val tI)],[(3,Rp)],[],aN _⟩),
 (100012,⟨[(2,.val .bool),(3,.ref 3 0),(8,.ref 8 0),(13,.val (.slice dL)),(14,.val tI),(15,.val tI),(30,.val .bool)],[(3,Rp),(8,[.val .bool,.val tI,.val tI,.val .str])],[],fun _=>0⟩),
 (200004,⟨[],[],[],fun _=>0⟩)]
def uT:av:=⟨[.val aA,.val (.slice dL),.val .bool],[.val tI],fun x=>iT x.1 x.2.1 x.2.2.1⟩
noncomputable def LV:Cx:=⟨tpr,[(121,eP),(122,qw),(123,BK)],[]⟩
theorem BY:FB 65 uT:=fbk LV I3 none (by intro x;kernel_rfl) (cz fP (cz ve (cz Hy (.nil _)))) Tryz.func65
def Ez:av:=⟨[.val aA,.val tI],[.val tI],fun x=>rE x.1 x.2.1⟩
noncomputable def OQ:Cx:=⟨tpr,[(27,gN),(37,dO),(65,uT),(105,oQ),(121,eP),(122,qw),(123,BK)],[]⟩
theorem O6:FB 64 Ez:=fbk OQ [] none (by intro x;kernel_rfl) (cz iO (cz ez (cz BY (cz uN (cz fP (cz ve (cz Hy (.nil _)))))))) Tryz.func64
def Ie:List (Nat×Ann):=[(15,⟨[(1,.ref 1 0),(48,.val tI),(49,.val tI)],[(1,Rp)],[],aN _⟩),
 (200015,⟨[(1,.ref 1 0)],[(1,Rp)],[],fun _=>0⟩)]
def ny:av:=⟨[.val aA],[.val tI],fun x=>gW x.1⟩
noncomputable def Kk:Cx:=⟨tpr,[(12,iN),(27,gN),(37,dO),(62,HR),(63,DO),(64,Ez),(65,uT)],[]⟩
theorem sP:FB 28 ny:=fbk Kk Ie none (by intro x;kernel_rfl) (cz jD (cz iO (cz ez (cz RS (cz M3 (cz O6 (cz BY (.nil _)))))))) Tryz.func28
def LP:List (Nat×Ann):=[(13,⟨[(1,.val (.slice az)),(3,.val (.slice aA)),(4,.ref 4 0),(6,.ref 6 0),(34,.val (.slice aA)),(35,.val tI),(36,.val tI)],[(4,Mv),(6,yL)],[],aN _⟩),
 (200013,⟨[(1,.val (.slice az)),(3,.val (.slice aA)),(4,.ref 4 0),(6,.ref 6 0)],[(4,Mv),(6,yL)],[],fun _=>0⟩),
 (300018,⟨[(58,.val .bool)],[],[],fun _=>0⟩)]
def EA:av:=⟨[.val aY,.val (.slice az),.val an,.val (.slice aA)],[.box [.val aY,.val (.slice az),.val an,.val (.slice aA),.map tI (.slice bg),.map tI bh,.row 107 de],.val tI],fun x=>xk x.1 x.2.1 x.2.2.1 x.2.2.2.1⟩
noncomputable def OR:Cx:=⟨tpr,[(25,kN),(28,ny),(35,oP),(36,qP)],[]⟩
theorem O7:FB 11 EA:=fbk OR LP none (by intro x;kernel_rfl) (cz oH (cz sP (cz uM (cz yO (.nil _))))) Tryz.func11
def I4:List (Nat×Ann):=[(13,⟨[(1,.val (.slice az)),(3,.val (.slice aA)),(4,.ref 4 0),(6,.ref 6 0),(34,.val (.slice aA)),(35,.val tI),(36,.val tI)],[(4,Mv),(6,yL)],[],aN _⟩),
 (200013,⟨[(1,.val (.slice az)),(3,.val (.slice aA)),(4,.ref 4 0),(6,.ref 6 0)],[(4,Mv),(6,yL)],[],fun _=>0⟩),
 (300018,⟨[(58,.val .bool)],[],[],fun _=>0⟩)]
def B8:av:=⟨[.val aY,.val (.slice az),.val an,.val (.slice aA)],[.val .hnd,.val tI],fun x=>sK x.1 x.2.1 x.2.2.1 x.2.2.2.1⟩
noncomputable def LW:Cx:=⟨tpr,[(25,kN),(28,ny),(35,oP),(36,qP)],[]⟩
theorem L6:FB 11 B8:=fbk LW I4 none (by intro x;kernel_rfl) (cz oH (cz sP (cz uM (cz yO (.nil _))))) Tryz.func11
end Go.Proofs.SeatA
set_option maxRecDepth 100000
namespace Go.Proofs.SeatA
open Go.Dn Go.Md Go.Proofs
def jq:av:=⟨[.val tI,.val tI,.box [.val aY,.val (.slice az),.val an,.val (.slice aA),.map tI (.slice bg),.map tI bh,.row 107 de],.box [.val tI]],[],fun x=>fN x.1 x.2.1 x.2.2.1 x.2.2.2.1⟩
noncomputable def u9:Cx:=⟨tpr,[],[]⟩
theorem D9:∀ x,acV u9 [] Tryz.f38 jq 2 x=jq.m x:=by intro x;kernel_rfl
noncomputable def abP:zS:= .nest 2 jq
theorem aeI:jb tpr 38:=sR Tryz.func38 rfl (by decide)
theorem aeJ:Hp Tryz.prog 38 abP:=aej (X:=u9) (.nil _) (by kernel_rfl) jq 2 [] (by kernel_rfl) (fun x y h=>(D9 x).trans h)
def vq:av:=⟨[.val aA,.val (.ptr aA)],[.val .bool],fun x=>qD x.1 x.2.1⟩
noncomputable def EI:Cx:=⟨tpr,[],[]⟩
theorem EO:FB 40 vq:=fbk EI [] none (by intro x;kernel_rfl) (.nil _) Tryz.func40
def yJ:List (Nat×Ann):=[(2,⟨[(0,.val (.slice aA)),(1,.val (.clo 40 (.ptr aA))),(7,.val tI),(8,.val tI)],[],[],aN _⟩),
 (200002,⟨[],[],[],fun _=>0⟩)]
def oV:av:=⟨[.val (.slice aA),.val (.clo 40 (.ptr aA))],[.val tI],fun x=>kZ x.1 x.2.1⟩
noncomputable def AN:Cx:=⟨tpr,[(40,vq)],[]⟩
theorem AQ:FB 76 oV:=fbk AN yJ none (by intro x;kernel_rfl) (cz EO (.nil _)) Tryz.func76
def mU:av:=⟨[.val (.slice aA),.val (.clo 40 (.ptr aA))],[.val .bool],fun x=>fL x.1 x.2.1⟩
noncomputable def yj:Cx:=⟨tpr,[(76,oV)],[]⟩
theorem yq:FB 39 mU:=fbk yj [] none (by intro x;kernel_rfl) (cz AQ (.nil _)) Tryz.func39
def Ad:av:=⟨[.val aY,.val (.slice az)],[.val tI],fun x=>tQ x.1 x.2.1⟩
noncomputable def Qk:Cx:=⟨tpr,[(25,kN),(35,oP)],[]⟩
theorem FY:FB 106 Ad:=fbk Qk [] none (by intro x;kernel_rfl) (cz oH (cz uM (.nil _))) Tryz.func106
def nH:av:=⟨[.val an],[.val tI],fun x=>iI x.1⟩
noncomputable def Tz:Cx:=⟨tpr,[(183,Cu)],[]⟩
theorem rI:FB 158 nH:=fbk Tz [] none (by intro x;kernel_rfl) (cz Jw (.nil _)) Tryz.func158
def Ig:List (Nat×Ann):=[(3,⟨[(5,.ref 12 0),(14,.val (.slice fh)),(15,.val tI),(16,.val tI)],[(12,abi)],[.mapC 10 tI .hnd,.ar ck],aN _⟩),
 (200003,⟨[(5,.ref 12 0)],[(12,abi)],[.mapC 10 tI .hnd,.ar ck],fun _=>0⟩)]
def tu:av:=⟨[.val aY,.val (.slice az),.ar ck],[.box [.val aY,.val (.slice az),.map tI .hnd,.row 188 an,.row 235 cO,.val tI]],fun x=>jX x.1 x.2.1 x.2.2.1⟩
noncomputable def Km:Cx:=⟨tpr,[(158,nH)],[]⟩
theorem A8:FB 107 tu:=fbk Km Ig none (by intro x;kernel_rfl) (cz rI (.nil _)) Tryz.func107
def AH:av:=⟨[.box [.val aY,.val (.slice az),.map tI .hnd,.row 188 an,.row 235 cO,.val tI],.val tI,.ar ck],[.val tI],fun x=>p8 x.1 x.2.1 x.2.2.1⟩
noncomputable def Jk:Cx:=⟨tpr,[],[]⟩
theorem Jv:FB 184 AH:=fbk Jk [] none (by intro x;kernel_rfl) (.nil _) Tryz.func184
def FE:List (Nat×Ann):=[(300002,⟨[(27,.val .bool)],[],[],fun _=>0⟩)]
def zf:av:=⟨[.box [.val aY,.val (.slice az),.map tI .hnd,.row 188 an,.row 235 cO,.val tI],.val .hnd,.val tI,.ar ck],[.val tI],fun x=>oM x.1 x.2.1 x.2.2.1 x.2.2.2.1⟩
noncomputable def Is:Cx:=⟨tpr,[],[]⟩
theorem Iy:FB 185 zf:=fbk Is FE none (by intro x;kernel_rfl) (.nil _) Tryz.func185
def wO:av:=⟨[.box [.val aY,.val (.slice az),.map tI .hnd,.row 188 an,.row 235 cO,.val tI],.val .hnd,.val az,.ar ck],[.val tI],fun x=>mh x.1 x.2.1 x.2.2.1 x.2.2.2.1⟩
noncomputable def FL:Cx:=⟨tpr,[(158,nH)],[]⟩
theorem FZ:FB 186 wO:=fbk FL [] none (by intro x;kernel_rfl) (cz rI (.nil _)) Tryz.func186
def wR:av:=⟨[.val .hnd,.arR ck],[.val tI],fun x=>mq x.1 x.2.1⟩
noncomputable def MM:Cx:=⟨tpr,[],[]⟩
theorem Dr:FB 113 wR:=fbk MM [] none (by intro x;kernel_rfl) (.nil _) Tryz.func113
def vr:av:=⟨[.box [.val aY,.val (.slice az),.map tI .hnd,.row 188 an,.row 235 cO,.val tI],.val .hnd,.val az,.ar ck],[.val tI],fun x=>lC x.1 x.2.1 x.2.2.1 x.2.2.2.1⟩
noncomputable def EJ:Cx:=⟨tpr,[(113,wR),(158,nH)],[]⟩
theorem EP:FB 187 vr:=fbk EJ [] none (by intro x;kernel_rfl) (cz Dr (cz rI (.nil _))) Tryz.func187
def ze:av:=⟨[.box [.val aY,.val (.slice az),.map tI .hnd,.row 188 an,.row 235 cO,.val tI],.val .hnd,.val az,.ar ck],[.val tI],fun x=>oL x.1 x.2.1 x.2.2.1 x.2.2.2.1⟩
noncomputable def Ir:Cx:=⟨tpr,[],[]⟩
theorem Ix:FB 188 ze:=fbk Ir [] none (by intro x;kernel_rfl) (.nil _) Tryz.func188
def zb:av:=⟨[.box [.val aY,.val (.slice az),.map tI .hnd,.row 188 an,.row 235 cO,.val tI],.val .hnd,.val az,.ar ck],[.val tI],fun x=>oK x.1 x.2.1 x.2.2.1 x.2.2.2.1⟩
noncomputable def Iq:Cx:=⟨tpr,[(158,nH)],[]⟩
theorem Iw:FB 189 zb:=fbk Iq [] none (by intro x;kernel_rfl) (cz rI (.nil _)) Tryz.func189
def FD:List (Nat×Ann):=[(100011,⟨[(0,.ref 2000 0),(1,.val tI),(5,.ref 5 0),(6,.val .hnd),(31,.val tI),(36,.val .bool)],[(5,Mw),(2000,abj)],[.rowC 10250004 188 an,.rowC 10250005 235 cO,.mapC 10250003 tI .hnd,.ar ck],fun _=>0⟩),
 (100015,⟨[(0,.ref 2000 0),(5,.ref 5 0),(6,.val .hnd),(31,.val tI),(44,.val .bool)],[(5,Mw),(2000,abj)],[.rowC 10250004 188 an,.rowC 10250005 235 cO,.mapC 10250003 tI .hnd,.ar ck],fun _=>0⟩),
 (100017,⟨[(5,.ref 5 0),(6,.val .hnd),(7,.val tI)],[(5,Mw),(2000,WA)],[.ar ck],fun _=>0⟩),
 (300021,⟨[(69,.val .bool)],[],[],fun _=>0⟩)]
def za:av:=⟨[.box [.val aY,.val (.slice az),.map tI .hnd,.row 188 an,.row 235 cO,.val tI],.val tI,.ar ck],[.val tI],fun x=>aZ x.1 x.2.1 x.2.2.1⟩
noncomputable def Ip:Cx:=⟨tpr,[(138,wQ),(158,nH),(184,AH),(185,zf),(186,wO),(187,vr),(188,ze),(189,zb)],[]⟩
theorem Iv:FB 159 za:=fbk Ip FD none (by intro x;kernel_rfl) (cz Dq (cz rI (cz Jv (cz Iy (cz FZ (cz EP (cz Ix (cz Iw (.nil _))))))))) Tryz.func159
def Ml:List (Nat×Ann):=[(1,⟨[(0,.val (.slice (.int .u32)))],[],[],aN _⟩),
 (200001,⟨[(0,.val (.slice (.int .u32)))],[],[],fun _=>0⟩)]
def tv:av:=⟨[.val (.slice (.int .u32))],[.val (.slice (.int .u32))],fun x=>pH x.1⟩
noncomputable def Qr:Cx:=⟨tpr,[],[]⟩
theorem zY:FB 87 tv:=fbk Qr Ml none (by intro x;kernel_rfl) (.nil _) Tryz.func87
def pF:av:=⟨[.val .bool,.val (.slice (.int .u32))],[.val bh],fun x=>iR x.1 x.2.1⟩
noncomputable def VL:Cx:=⟨tpr,[(87,tv)],[]⟩
theorem tN:FB 82 pF:=fbk VL [] none (by intro x;kernel_rfl) (cz zY (.nil _)) Tryz.func82
def Vw:List (Nat×Ann):=[(100003,⟨[(0,.val tI),(2,.ref 2 0),(3,.val (.int .u64))],[(2,Mu)],[],fun _=>0⟩)]
def nC:av:=⟨[.val tI],[.val bh],fun x=>ld x.1⟩
noncomputable def Yr:Cx:=⟨tpr,[(82,pF)],[]⟩
theorem qE:FB 45 nC:=fbk Yr Vw none (by intro x;kernel_rfl) (cz tN (.nil _)) Tryz.func45
def Tn:List (Nat×Ann):=[(6,⟨[(1,.val (.slice (.int .u32))),(5,.own 161 (.int .u32)),(6,.val (.int .u64)),(20,.val (.slice (.int .u32))),(21,.val tI),(22,.val tI)],[],[],aN _⟩),
 (100002,⟨[(0,.val (.slice (.int .u32))),(1,.val (.slice (.int .u32)))],[],[],fun _=>0⟩),
 (100010,⟨[(1,.val (.slice (.int .u32))),(5,.own 161 (.int .u32)),(6,.val (.int .u64)),(20,.val (.slice (.int .u32))),(21,.val tI),(22,.val tI)],[],[],fun _=>0⟩),
 (200006,⟨[(5,.own 161 (.int .u32)),(6,.val (.int .u64))],[],[],fun _=>0⟩)]
def N8:av:=⟨[.val (.slice (.int .u32)),.val (.slice (.int .u32))],[.row 161 (.int .u32)],fun x=>DV x.1 x.2.1⟩
noncomputable def WT:Cx:=⟨tpr,[],[]⟩
theorem W9:FB 83 N8:=fbk WT Tn none (by intro x;kernel_rfl) (.nil _) Tryz.func83
def P8:List (Nat×Ann):=[(6,⟨[(1,.val (.slice (.int .u32))),(5,.own 161 (.int .u32)),(6,.val (.int .u64)),(20,.val (.slice (.int .u32))),(21,.val tI),(22,.val tI)],[],[],aN _⟩),
 (100002,⟨[(0,.val (.slice (.int .u32))),(1,.val (.slice (.int .u32)))],[],[],fun _=>0⟩),
 (100010,⟨[(1,.val (.slice (.int .u32))),(5,.own 161 (.int .u32)),(6,.val (.int .u64)),(20,.val (.slice (.int .u32))),(21,.val tI),(22,.val tI)],[],[],fun _=>0⟩),
 (200006,⟨[(5,.own 161 (.int .u32)),(6,.val (.int .u64))],[],[],fun _=>0⟩)]
def JW:av:=⟨[.val (.slice (.int .u32)),.val (.slice (.int .u32))],[.val (.slice (.int .u32))],fun x=>IY x.1 x.2.1⟩
noncomputable def TF:Cx:=⟨tpr,[],[]⟩
theorem TS:FB 83 JW:=fbk TF P8 none (by intro x;kernel_rfl) (.nil _) Tryz.func83
def Mk:List (Nat×Ann):=[(4,⟨[(0,.val (.slice (.int .u32))),(1,.val (.slice (.int .u32))),(5,.val tI)],[],[],aN _⟩),
 (200004,⟨[],[],[],fun _=>0⟩)]
def Ah:av:=⟨[.val (.slice (.int .u32)),.val (.slice (.int .u32))],[.val tI],fun x=>uv x.1 x.2.1⟩
noncomputable def Qq:Cx:=⟨tpr,[],[]⟩
theorem Gc:FB 84 Ah:=fbk Qq Mk none (by intro x;kernel_rfl) (.nil _) Tryz.func84
def Rh:List (Nat×Ann):=[(4,⟨[(1,.val (.slice (.int .u32))),(5,.own 161 (.int .u32)),(6,.val (.int .u64)),(13,.val (.slice (.int .u32))),(14,.val tI),(15,.val tI)],[],[],aN _⟩),
 (100008,⟨[(1,.val (.slice (.int .u32))),(5,.own 161 (.int .u32)),(9,.val (.int .u64)),(13,.val (.slice (.int .u32))),(14,.val tI),(15,.val tI)],[],[],fun _=>0⟩),
 (200004,⟨[(5,.own 161 (.int .u32))],[],[],fun _=>0⟩)]
def Er:av:=⟨[.val (.slice (.int .u32)),.val (.slice (.int .u32))],[.val (.slice (.int .u32))],fun x=>xW x.1 x.2.1⟩
noncomputable def VK:Cx:=⟨tpr,[(87,tv)],[]⟩
theorem LC:FB 85 Er:=fbk VK Rh none (by intro x;kernel_rfl) (cz zY (.nil _)) Tryz.func85
def OJ:List (Nat×Ann):=[(4,⟨[(2,.ref 2 0),(3,.ref 3 0),(4,.ref 4 0),(5,.ref 5 0),(6,.rowR 12),(7,.val (.slice (.int .u32))),(8,.val tI)],[(2,FJ),(3,FJ),(4,Mu),(5,Mu)],[.rowC 12 161 (.int .u32)],aN _⟩),
 (200004,⟨[(4,.ref 4 0),(5,.ref 5 0),(6,.rowR 12),(7,.val (.slice (.int .u32)))],[(4,Mu),(5,Mu)],[.rowC 12 161 (.int .u32)],fun _=>0⟩)]
def H7:av:=⟨[.val bh,.val bh],[.val bh,.val bh],fun x=>w8 x.1 x.2.1⟩
noncomputable def RG:Cx:=⟨tpr,[(82,pF),(83,N8),(84,Ah),(85,Er),(87,tv)],[]⟩
theorem R3:FB 46 H7:=fbk RG OJ none (by intro x;kernel_rfl) (cz tN (cz W9 (cz Gc (cz LC (cz zY (.nil _)))))) Tryz.func46
def jY:av:=⟨[.val bh],[.val tI],fun x=>fS x.1⟩
noncomputable def O3:Cx:=⟨tpr,[],[]⟩
theorem mN:FB 17 jY:=fbk O3 [] none (by intro x;kernel_rfl) (.nil _) Tryz.func17
def wW:av:=⟨[.val bh],[.val bh],fun x=>qy x.1⟩
noncomputable def MR:Cx:=⟨tpr,[(82,pF)],[]⟩
theorem Dt:FB 44 wW:=fbk MR [] none (by intro x;kernel_rfl) (cz tN (.nil _)) Tryz.func44
def Mj:List (Nat×Ann):=[(5,⟨[(1,.val tI),(2,.ref 2 0),(6,.val (.int .u64)),(14,.val (.slice (.int .u32))),(15,.val tI),(16,.val tI)],[(2,FJ)],[],aN _⟩),
 (200005,⟨[(1,.val tI),(2,.ref 2 0),(6,.val (.int .u64))],[(2,FJ)],[],fun _=>0⟩)]
def GW:av:=⟨[.val bh,.val tI],[.val tI,.val .bool],fun x=>zO x.1 x.2.1⟩
noncomputable def Qp:Cx:=⟨tpr,[],[]⟩
theorem Qz:FB 88 GW:=fbk Qp Mj none (by intro x;kernel_rfl) (.nil _) Tryz.func88
def JP:av:=⟨[.val bh,.val tI],[.val an,.val tI],fun x=>yI x.1 x.2.1⟩
noncomputable def Tt:Cx:=⟨tpr,[(88,GW)],[]⟩
theorem TL:FB 47 JP:=fbk Tt [] none (by intro x;kernel_rfl) (cz Qz (.nil _)) Tryz.func47
def Mc:List (Nat×Ann):=[(2,⟨[(1,.val tI),(2,.ref 2 0),(4,.ref 4 0),(6,.ref 6 0)],[(2,FJ),(4,yL),(6,FJ)],[],aN _⟩),
 (200002,⟨[(1,.val tI),(2,.ref 2 0),(4,.ref 4 0)],[(2,FJ),(4,yL)],[],fun _=>0⟩)]
def oo:av:=⟨[.val bh,.val tI],[.val an,.val tI],fun x=>ke x.1 x.2.1⟩
noncomputable def Qd:Cx:=⟨tpr,[(17,jY),(44,wW),(45,nC),(46,H7),(47,JP)],[]⟩
theorem sO:FB 18 oo:=fbk Qd Mc none (by intro x;kernel_rfl) (cz mN (cz Dt (cz qE (cz R3 (cz TL (.nil _)))))) Tryz.func18
def LL:av:=⟨[.val tI],[.val an],fun x=>qa x.1⟩
noncomputable def VD:Cx:=⟨tpr,[(18,oo),(45,nC)],[]⟩
theorem VP:FB 111 LL:=fbk VD [] none (by intro x;kernel_rfl) (cz sO (cz qE (.nil _))) Tryz.func111
def OE:List (Nat×Ann):=[(1,⟨[(1,.ref 1 0),(2,.ref 2 0)],[(1,yL),(2,yL)],[],aN _⟩),
 (200001,⟨[(1,.ref 1 0),(2,.ref 2 0)],[(1,yL),(2,yL)],[],fun _=>0⟩),
 (300001,⟨[(11,.val .bool)],[],[],fun _=>0⟩)]
def HS:av:=⟨[.val an],[.val an],fun x=>AV x.1⟩
noncomputable def Ru:Cx:=⟨tpr,[],[]⟩
theorem RT:FB 112 HS:=fbk Ru OE none (by intro x;kernel_rfl) (.nil _) Tryz.func112
def uU:av:=⟨[.val .hnd,.arR ck],[.val bg],fun x=>kR x.1 x.2.1⟩
noncomputable def L3:Cx:=⟨tpr,[(111,LL),(112,HS),(113,wR)],[]⟩
theorem BZ:FB 60 uU:=fbk L3 [] none (by intro x;kernel_rfl) (cz VP (cz RT (cz Dr (.nil _)))) Tryz.func60
def Hi:List (Nat×Ann):=[(1,⟨[(0,.ref 2000 0),(1,.val tI),(10,.val (.slice az)),(11,.val tI),(12,.val tI)],[(2000,WA)],[.ar ck],aN _⟩),
 (200001,⟨[],[(2000,WA)],[.ar ck],fun _=>0⟩)]
def se:av:=⟨[.box [.val aY,.val (.slice az),.map tI .hnd,.row 188 an,.row 235 cO,.val tI],.val tI,.ar ck],[],fun x=>jf x.1 x.2.1 x.2.2.1⟩
noncomputable def Jl:Cx:=⟨tpr,[(60,uU),(159,za)],[]⟩
theorem Aq:FB 108 se:=fbk Jl Hi none (by intro x;kernel_rfl) (cz BZ (cz Iv (.nil _))) Tryz.func108
end Go.Proofs.SeatA
end
