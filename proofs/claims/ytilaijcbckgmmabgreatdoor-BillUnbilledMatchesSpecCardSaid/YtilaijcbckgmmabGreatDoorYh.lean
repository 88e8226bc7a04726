/-
  Each function is as its plain model says, a further part. No condition.
-/
import Derived.Test.YtilaijcbckgmmabGreatDoorYz
set_option maxRecDepth 100000
noncomputable section
namespace Go.Proofs.SeatA
open Go.Dn Go.Md Go.Proofs
def Ro:List CK:=[.val tI,.val tI,.val tI,.val (.slice .str)]
def BJ:av:=⟨[.val ff,.val (.ptr ff)],[.val .bool],fun x=>Eu x.1 x.2.1⟩
noncomputable def Kj:Cx:=⟨tpr,[],[]⟩
theorem Kw:FB 170 BJ:=fbk Kj [] none (by intro x;kernel_rfl) (.nil _) Tryz.func170
def AW:List (Nat×Ann):=[(2,⟨[(0,.val (.slice ff)),(1,.val (.clo 170 (.ptr ff))),(7,.val tI),(8,.val tI)],[],[],aN _⟩),
 (200002,⟨[],[],[],fun _=>0⟩)]
def sj:av:=⟨[.val (.slice ff),.val (.clo 170 (.ptr ff))],[.val tI],fun x=>vo x.1 x.2.1⟩
noncomputable def Cf:Cx:=⟨tpr,[(170,BJ)],[]⟩
theorem Ch:FB 199 sj:=fbk Cf AW none (by intro x;kernel_rfl) (cz Kw (.nil _)) Tryz.func199
def oU:av:=⟨[.val (.slice ff),.val (.clo 170 (.ptr ff))],[.val .bool],fun x=>sd x.1 x.2.1⟩
noncomputable def AM:Cx:=⟨tpr,[(199,sj)],[]⟩
theorem AP:FB 169 oU:=fbk AM [] none (by intro x;kernel_rfl) (cz Ch (.nil _)) Tryz.func169
def wM:av:=⟨[.val an],[.val tI],fun x=>pO x.1⟩
noncomputable def MG:Cx:=⟨tpr,[(121,eP),(122,qw)],[]⟩
theorem Dm:FB 171 wM:=fbk MG [] none (by intro x;kernel_rfl) (cz fP (cz ve (.nil _))) Tryz.func171
def J7:List (Nat×Ann):=[(4,⟨[(0,.val (.slice ff)),(9,.val (.slice ff)),(10,.val tI),(11,.val tI)],[],[],aN _⟩),
 (200004,⟨[],[],[],fun _=>0⟩)]
def DL:av:=⟨[.val (.slice ff)],[.val tI],fun x=>Hq x.1⟩
noncomputable def MD:Cx:=⟨tpr,[(12,iN),(27,gN),(37,dO),(169,oU),(171,wM)],[]⟩
theorem MX:FB 127 DL:=fbk MD J7 none (by intro x;kernel_rfl) (cz jD (cz iO (cz ez (cz AP (cz Dm (.nil _)))))) Tryz.func127
def FF:List (Nat×Ann):=[(2,⟨[(0,.val (.slice .str)),(1,.val .str),(7,.val tI),(8,.val tI)],[],[],aN _⟩),
 (200002,⟨[],[],[],fun _=>0⟩)]
def zg:av:=⟨[.val (.slice .str),.val .str],[.val tI],fun x=>B7 x.1 x.2.1⟩
noncomputable def It:Cx:=⟨tpr,[],[]⟩
theorem IB:FB 200 zg:=fbk It FF none (by intro x;kernel_rfl) (.nil _) Tryz.func200
def vu:av:=⟨[.val (.slice .str),.val .str],[.val .bool],fun x=>yX x.1 x.2.1⟩
noncomputable def EL:Cx:=⟨tpr,[(200,zg)],[]⟩
theorem ES:FB 172 vu:=fbk EL [] none (by intro x;kernel_rfl) (cz IB (.nil _)) Tryz.func172
def Hg:List (Nat×Ann):=[(4,⟨[(0,.val (.slice cQ)),(11,.val (.slice cQ)),(12,.val tI),(13,.val tI)],[],[],aN _⟩),
 (16,⟨[(0,.val (.slice cQ)),(4,.ref 4 0),(11,.val (.slice cQ)),(12,.val tI),(13,.val tI),(46,.val (.slice .str)),(47,.val tI),(48,.val tI)],[(4,Ro)],[],aN _⟩),
 (200004,⟨[],[],[],fun _=>0⟩),
 (200016,⟨[(0,.val (.slice cQ)),(11,.val (.slice cQ)),(12,.val tI),(13,.val tI)],[],[],fun _=>0⟩)]
def AE:av:=⟨[.val (.slice cQ)],[.val tI],fun x=>Df x.1⟩
noncomputable def Jh:Cx:=⟨tpr,[(12,iN),(27,gN),(171,wM),(172,vu)],[]⟩
theorem Js:FB 128 AE:=fbk Jh Hg none (by intro x;kernel_rfl) (cz jD (cz iO (cz Dm (cz ES (.nil _))))) Tryz.func128
def Ew:av:=⟨[.val (.slice ff),.val (.slice cQ)],[.val tI],fun x=>Jb x.1 x.2.1⟩
noncomputable def OO:Cx:=⟨tpr,[(127,DL),(128,AE)],[]⟩
theorem O4:FB 71 Ew:=fbk OO [] none (by intro x;kernel_rfl) (cz MX (cz Js (.nil _))) Tryz.func71
def LI:av:=⟨[.val an],[.val tI],fun x=>Kf x.1⟩
noncomputable def Vy:Cx:=⟨tpr,[(167,zI)],[]⟩
theorem VM:FB 129 LI:=fbk Vy [] none (by intro x;kernel_rfl) (cz Ea (.nil _)) Tryz.func129
def ur:av:=⟨[.val (.slice .hnd)],[.row 142 .hnd],fun x=>xX x.1⟩
noncomputable def D8:Cx:=⟨tpr,[],[]⟩
theorem Ee:FB 130 ur:=fbk D8 [] none (by intro x;kernel_rfl) (.nil _) Tryz.func130
def Ey:av:=⟨[.val .hnd,.arR aS],[.val tI],fun x=>Cb x.1 x.2.1⟩
noncomputable def OP:Cx:=⟨tpr,[],[]⟩
theorem O5:FB 133 Ey:=fbk OP [] none (by intro x;kernel_rfl) (.nil _) Tryz.func133
def wN:av:=⟨[.val .hnd,.val .hnd,.arR aS],[.val tI],fun x=>pP x.1 x.2.1 x.2.2.1⟩
noncomputable def MH:Cx:=⟨tpr,[(133,Ey)],[]⟩
theorem Dp:FB 132 wN:=fbk MH [] none (by intro x;kernel_rfl) (cz O5 (.nil _)) Tryz.func132
def qT:List (Nat×Ann):=[(1,⟨[(0,.rowR 10250000),(1,.val tI),(2,.val tI),(3,.val (.clo 132 .unit)),(8,.val tI)],[],[.rowC 10250000 142 .hnd,.arF aS],aN _⟩),
 (4,⟨[(0,.rowR 10250000),(1,.val tI),(2,.val tI),(3,.val (.clo 132 .unit)),(8,.val tI),(9,.val tI)],[],[.rowC 10250000 142 .hnd,.arF aS],aN _⟩),
 (200001,⟨[],[],[.rowC 10250000 142 .hnd,.arF aS],fun _=>0⟩),
 (200004,⟨[(0,.rowR 10250000),(1,.val tI),(2,.val tI),(3,.val (.clo 132 .unit)),(8,.val tI)],[],[.rowC 10250000 142 .hnd,.arF aS],fun _=>0⟩)]
def ju:av:=⟨[.mrow 142 .hnd,.val tI,.val tI,.val (.clo 132 .unit),.arR aS],[],fun x=>fV x.1 x.2.1 x.2.2.1 x.2.2.2.1 x.2.2.2.2.1⟩
noncomputable def sw:Cx:=⟨tpr,[(132,wN)],[]⟩
theorem sA:FB 201 ju:=fbk sw qT none (by intro x;kernel_rfl) (cz Dp (.nil _)) Tryz.func201
def tL:List (Nat×Ann):=[(1,⟨[(0,.rowR 10250000),(1,.val tI),(2,.val tI),(3,.val tI),(10,.val tI)],[],[.rowC 10250000 142 .hnd,.arF aS],aN _⟩),
 (200001,⟨[],[],[.rowC 10250000 142 .hnd,.arF aS],fun _=>0⟩)]
def lp:av:=⟨[.mrow 142 .hnd,.val tI,.val tI,.val tI,.val (.clo 132 .unit),.arR aS],[],fun x=>fe x.1 x.2.1 x.2.2.1 x.2.2.2.1 x.2.2.2.2.1 x.2.2.2.2.2.1⟩
noncomputable def vD:Cx:=⟨tpr,[],[]⟩
theorem vF:FB 232 lp:=fbk vD tL none (by intro x;kernel_rfl) (.nil _) Tryz.func232
def vO:List (Nat×Ann):=[(2,⟨[(0,.rowR 10250000),(2,.val tI),(4,.val (.clo 132 .unit)),(10,.val tI),(11,.val tI)],[],[.rowC 10250000 142 .hnd,.arF aS],aN _⟩),
 (200002,⟨[(0,.rowR 10250000),(2,.val tI),(4,.val (.clo 132 .unit)),(10,.val tI)],[],[.rowC 10250000 142 .hnd,.arF aS],fun _=>0⟩)]
def mV:av:=⟨[.mrow 142 .hnd,.val tI,.val tI,.val tI,.val (.clo 132 .unit),.arR aS],[],fun x=>oS x.1 x.2.1 x.2.2.1 x.2.2.2.1 x.2.2.2.2.1 x.2.2.2.2.2.1⟩
noncomputable def yl:Cx:=⟨tpr,[(232,lp)],[]⟩
theorem yt:FB 222 mV:=fbk yl vO none (by intro x;kernel_rfl) (cz vF (.nil _)) Tryz.func222
def kE:List (Nat×Ann):=[(3,⟨[(0,.rowR 10250000),(1,.val tI),(4,.val (.clo 132 .unit)),(10,.val tI),(11,.val tI)],[],[.rowC 10250000 142 .hnd,.arF aS],aN _⟩),
 (9,⟨[(0,.rowR 10250000),(10,.val tI),(13,.val tI)],[],[.rowC 10250000 142 .hnd,.arF aS],aN _⟩),
 (15,⟨[(0,.rowR 10250000),(2,.val tI),(4,.val (.clo 132 .unit)),(14,.val tI),(15,.val tI)],[],[.rowC 10250000 142 .hnd,.arF aS],aN _⟩),
 (21,⟨[(0,.rowR 10250000),(14,.val tI),(17,.val tI)],[],[.rowC 10250000 142 .hnd,.arF aS],aN _⟩),
 (33,⟨[(0,.rowR 10250000),(1,.val tI),(2,.val tI),(3,.val tI),(4,.val (.clo 132 .unit)),(18,.val tI),(19,.val tI),(20,.val tI),(21,.val tI),(22,.val tI)],[],[.rowC 10250000 142 .hnd,.arF aS],aN _⟩),
 (100030,⟨[(0,.rowR 10250000),(1,.val tI),(2,.val tI),(3,.val tI),(4,.val (.clo 132 .unit)),(18,.val tI),(19,.val tI),(20,.val tI),(21,.val tI)],[],[.rowC 10250000 142 .hnd,.arF aS],fun _=>0⟩),
 (100040,⟨[(0,.rowR 10250000),(1,.val tI),(3,.val tI),(4,.val (.clo 132 .unit)),(18,.val tI),(20,.val tI),(24,.val tI)],[],[.rowC 10250000 142 .hnd,.arF aS],fun _=>0⟩),
 (100042,⟨[(0,.rowR 10250000),(3,.val tI),(4,.val (.clo 132 .unit)),(18,.val tI),(24,.val tI)],[],[.rowC 10250000 142 .hnd,.arF aS],fun _=>0⟩),
 (200003,⟨[(0,.rowR 10250000),(1,.val tI),(10,.val tI)],[],[.rowC 10250000 142 .hnd,.arF aS],fun _=>0⟩),
 (200009,⟨[],[],[.rowC 10250000 142 .hnd,.arF aS],fun _=>0⟩),
 (200015,⟨[(0,.rowR 10250000),(2,.val tI),(14,.val tI)],[],[.rowC 10250000 142 .hnd,.arF aS],fun _=>0⟩),
 (200021,⟨[],[],[.rowC 10250000 142 .hnd,.arF aS],fun _=>0⟩),
 (200033,⟨[(0,.rowR 10250000),(1,.val tI),(2,.val tI),(3,.val tI),(4,.val (.clo 132 .unit)),(18,.val tI),(19,.val tI),(20,.val tI)],[],[.rowC 10250000 142 .hnd,.arF aS],fun _=>0⟩)]
def bS:List PM:=[.mrow 142 .hnd,.val tI,.val tI,.val tI,.val (.clo 132 .unit),.arR aS]
def cI:List RM:=[]
noncomputable def lf:List (Nat×av):=[(132,wN),(222,mV)]
def lS:av:=⟨bS,cI,fun x=>iM x.1 x.2.1 x.2.2.1 x.2.2.2.1 x.2.2.2.2.1 x.2.2.2.2.2.1⟩
theorem vE:∀ (self:eG bS->Option (cX bS cI)) (x:eG bS),Qs ⟨tpr,(202,⟨bS,cI,self⟩)::lf,[]⟩ kE none Tryz.f202 ⟨bS,cI,fun x=>dB self x.1 x.2.1 x.2.2.1 x.2.2.2.1 x.2.2.2.2.1 x.2.2.2.2.2.1⟩ x=dB self x.1 x.2.1 x.2.2.1 x.2.2.2.1 x.2.2.2.2.1 x.2.2.2.2.2.1:=by intro self x;kernel_rfl
theorem lI:jb tpr 202:=sR Tryz.func202 rfl (by decide)
theorem we:pJ tpr 202 lS:=YF (ps:=bS) (rs:=cI) (m:=fun n x=>NV (fun self x=>dB self x.1 x.2.1 x.2.2.1 x.2.2.2.1 x.2.2.2.2.1 x.2.2.2.2.2.1) n x) (R8 (P:=Tryz.prog) (specs:=lf) (ps:=bS) (rs:=cI) (cz Dp (cz yt (.nil _))) (by kernel_rfl) (fun self x=>dB self x.1 x.2.1 x.2.2.1 x.2.2.2.1 x.2.2.2.2.1 x.2.2.2.2.2.1) kE none (by kernel_rfl) lI vE) (fun x=>kM x.1 x.2.1 x.2.2.1 x.2.2.2.1 x.2.2.2.2.1 x.2.2.2.2.2.1)
def vP:List (Nat×Ann):=[(2,⟨[(0,.rowR 10250000),(1,.val tI),(2,.val (.clo 132 .unit)),(6,.val tI),(7,.val tI),(8,.val tI)],[],[.rowC 10250000 142 .hnd,.arF aS],aN _⟩),
 (7,⟨[(0,.rowR 10250000),(1,.val tI),(2,.val (.clo 132 .unit)),(6,.val tI)],[],[.rowC 10250000 142 .hnd,.arF aS],aN _⟩),
 (9,⟨[(0,.rowR 10250000),(1,.val tI),(2,.val (.clo 132 .unit)),(6,.val tI),(7,.val tI),(8,.val tI)],[],[.rowC 10250000 142 .hnd,.arF aS],aN _⟩),
 (200002,⟨[(0,.rowR 10250000),(1,.val tI),(2,.val (.clo 132 .unit)),(6,.val tI),(7,.val tI)],[],[.rowC 10250000 142 .hnd,.arF aS],fun _=>0⟩),
 (200007,⟨[],[],[.rowC 10250000 142 .hnd,.arF aS],fun _=>0⟩),
 (200009,⟨[(0,.rowR 10250000),(1,.val tI),(2,.val (.clo 132 .unit)),(6,.val tI),(7,.val tI)],[],[.rowC 10250000 142 .hnd,.arF aS],fun _=>0⟩)]
def mW:av:=⟨[.mrow 142 .hnd,.val tI,.val (.clo 132 .unit),.arR aS],[],fun x=>oT x.1 x.2.1 x.2.2.1 x.2.2.2.1⟩
noncomputable def ym:Cx:=⟨tpr,[(201,ju),(202,lS)],[]⟩
theorem yu:FB 173 mW:=fbk ym vP none (by intro x;kernel_rfl) (cz sA (.cons we lI (.nil _))) Tryz.func173
def mD:av:=⟨[.mrow 142 .hnd,.val (.clo 132 .unit),.arR aS],[],fun x=>om x.1 x.2.1 x.2.2.1⟩
noncomputable def xq:Cx:=⟨tpr,[(173,mW)],[]⟩
theorem xu:FB 131 mD:=fbk xq [] none (by intro x;kernel_rfl) (cz yu (.nil _)) Tryz.func131
def DN:av:=⟨[.val .hnd,.val tI,.arR aS],[.val .bool],fun x=>AX x.1 x.2.1 x.2.2.1⟩
noncomputable def MF:Cx:=⟨tpr,[],[]⟩
theorem MZ:FB 134 DN:=fbk MF [] none (by intro x;kernel_rfl) (.nil _) Tryz.func134
def AF:av:=⟨[.val .hnd,.arR aS],[.val tI],fun x=>Dh x.1 x.2.1⟩
noncomputable def Ji:Cx:=⟨tpr,[(167,zI)],[]⟩
theorem Jt:FB 174 AF:=fbk Ji [] none (by intro x;kernel_rfl) (cz Ea (.nil _)) Tryz.func174
def Ab:av:=⟨[.val .hnd,.val tI,.val tI,.ar aS],[.val tI],fun x=>zl x.1 x.2.1 x.2.2.1 x.2.2.2.1⟩
noncomputable def Qg:Cx:=⟨tpr,[],[]⟩
theorem FV:FB 136 Ab:=fbk Qg [] none (by intro x;kernel_rfl) (.nil _) Tryz.func136
def DM:av:=⟨[.val .hnd,.val tI,.val tI,.ar aS],[.val tI],fun x=>Hr x.1 x.2.1 x.2.2.1 x.2.2.2.1⟩
noncomputable def ME:Cx:=⟨tpr,[(136,Ab),(174,AF)],[]⟩
theorem MY:FB 135 DM:=fbk ME [] none (by intro x;kernel_rfl) (cz FV (cz Jt (.nil _))) Tryz.func135
def Mf:List (Nat×Ann):=[(4,⟨[(1,.val (.slice cQ)),(2,.val tI),(8,.own 142 .hnd),(9,.mapR 23),(24,.val (.slice ff)),(25,.val tI),(26,.val tI)],[],[.mapC 23 .str .hnd,.ar aS],aN _⟩),
 (14,⟨[(2,.val tI),(8,.own 142 .hnd),(9,.mapR 23),(13,.rowR 105744),(14,.own 3 tI),(49,.val (.slice cQ)),(50,.val tI),(51,.val tI)],[],[.rowC 105744 142 .hnd,.mapC 23 .str .hnd,.ar aS],aN _⟩),
 (19,⟨[(2,.val tI),(8,.own 142 .hnd),(9,.mapR 23),(13,.rowR 105744),(14,.own 3 tI),(16,.ref 16 0),(17,.val tI),(49,.val (.slice cQ)),(50,.val tI),(51,.val tI),(63,.val (.slice .str)),(64,.val tI),(65,.val tI)],[(16,Ro)],[.rowC 105744 142 .hnd,.mapC 23 .str .hnd,.ar aS],aN _⟩),
 (26,⟨[(2,.val tI),(8,.own 142 .hnd),(9,.mapR 23),(13,.rowR 105744),(14,.own 3 tI),(16,.ref 16 0),(17,.val tI),(49,.val (.slice cQ)),(50,.val tI),(51,.val tI),(86,.rowR 105744),(87,.val tI),(88,.val tI)],[(16,Ro)],[.rowC 105744 142 .hnd,.mapC 23 .str .hnd,.ar aS],aN _⟩),
 (200004,⟨[(1,.val (.slice cQ)),(2,.val tI),(8,.own 142 .hnd),(9,.mapR 23)],[],[.mapC 23 .str .hnd,.ar aS],fun _=>0⟩),
 (200014,⟨[(8,.own 142 .hnd),(14,.own 3 tI)],[],[.ar aS],fun _=>0⟩),
 (200019,⟨[(2,.val tI),(8,.own 142 .hnd),(9,.mapR 23),(13,.rowR 105744),(14,.own 3 tI),(16,.ref 16 0),(17,.val tI),(49,.val (.slice cQ)),(50,.val tI),(51,.val tI)],[(16,Ro)],[.rowC 105744 142 .hnd,.mapC 23 .str .hnd,.ar aS],fun _=>0⟩),
 (200026,⟨[(2,.val tI),(8,.own 142 .hnd),(9,.mapR 23),(13,.rowR 105744),(14,.own 3 tI),(17,.val tI),(49,.val (.slice cQ)),(50,.val tI),(51,.val tI)],[],[.rowC 105744 142 .hnd,.mapC 23 .str .hnd,.ar aS],fun _=>0⟩)]
def GO:av:=⟨[.val (.slice ff),.val (.slice cQ),.val tI,.ar aS],[.val (.slice .hnd),.val (.slice tI)],fun x=>Lt x.1 x.2.1 x.2.2.1 x.2.2.2.1⟩
noncomputable def Qh:Cx:=⟨tpr,[(129,LI),(130,ur),(131,mD),(134,DN),(135,DM),(136,Ab)],[]⟩
theorem Qv:FB 72 GO:=fbk Qh Mf none (by intro x;kernel_rfl) (cz VM (cz Ee (cz xu (cz MZ (cz MY (cz FV (.nil _))))))) Tryz.func72
def LJ:av:=⟨[.val tI],[.val an,.val tI],fun x=>Rk x.1⟩
noncomputable def Vz:Cx:=⟨tpr,[(18,oo),(45,nC)],[]⟩
theorem VN:FB 137 LJ:=fbk Vz [] none (by intro x;kernel_rfl) (cz sO (cz qE (.nil _))) Tryz.func137
def EB:av:=⟨[.val tI],[.val an],fun x=>xo x.1⟩
noncomputable def OS:Cx:=⟨tpr,[(137,LJ)],[]⟩
theorem O8:FB 73 EB:=fbk OS [] none (by intro x;kernel_rfl) (cz VN (.nil _)) Tryz.func73
def Vr:List (Nat×Ann):=[(7,⟨[(9,.val (.slice tI)),(10,.own 102 BR),(28,.val (.slice .hnd)),(29,.val tI),(30,.val tI)],[],[.ar aS],aN _⟩),
 (13,⟨[(10,.own 102 BR),(13,.own 40 an),(58,.val (.slice tI)),(59,.val tI),(60,.val tI)],[],[.ar aS],aN _⟩),
 (200007,⟨[(9,.val (.slice tI)),(10,.own 102 BR)],[],[.ar aS],fun _=>0⟩),
 (200013,⟨[(10,.own 102 BR),(13,.own 40 an)],[],[.ar aS],fun _=>0⟩)]
def PJ:av:=⟨[.val (.slice ff),.val (.slice cQ)],[.val (.slice BR),.val (.slice an),.val tI],fun x=>Wr x.1 x.2.1⟩
noncomputable def Yd:Cx:=⟨tpr,[(71,Ew),(72,GO),(73,EB)],[]⟩
theorem Yv:FB 34 PJ:=fbk Yd Vr (some aS) (by intro x;kernel_rfl) (cz O4 (cz Qv (cz O8 (.nil _)))) Tryz.func34
def N3:av:=⟨[],[.val .bool],fun x=>Ns ⟩
noncomputable def WH:Cx:=⟨tpr,[(34,PJ)],[]⟩
theorem W4:FB 10 N3:=fbk WH [] none (by intro x;kernel_rfl) (cz Yv (.nil _)) Tryz.func10
def zT:List (Nat×Ann):=[(300007,⟨[(14,.val .bool)],[],[],fun _=>0⟩)]
def qx:av:=⟨[.val aY,.val (.slice az),.val an,.val (.slice aA),.val tI,.val .str,.val aA],[.val .bool],fun x=>iy x.1 x.2.1 x.2.2.1 x.2.2.2.1 x.2.2.2.2.1 x.2.2.2.2.2.1 x.2.2.2.2.2.2.1⟩
noncomputable def AZ:Cx:=⟨tpr,[(4,GN),(5,HU),(6,wU),(7,JQ),(8,LM),(9,PL),(10,N3)],[]⟩
theorem AO:ZR AZ zT none Tryz.f3 qx:=by intro x;kernel_rfl
theorem Bf:pJ tpr 3 qx:=Jo AO (cz Qu (cz RV (cz Ga (cz TM (cz VQ (cz Yx (cz W4 (.nil _)))))))) ab1 Tryz.func3
end Go.Proofs.SeatA
end
