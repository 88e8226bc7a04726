/-
  Each function of the sheet that the laws reach is as its plain model says, a further part. No condition.
-/
import Derived.Test.YtcpmaicaibdafaaGreatDoorZi
import Derived.Test.YtcpmaicaibdafaaGreatDoorZf
set_option linter.all false
set_option maxRecDepth 100000
noncomputable section
namespace Go.Proofs.SeatA
open Go.Dn Go.Md Go.Proofs
def Ez:List CK:=[.val .bool,.val (.slice (.int .u32))]
def Xc:List CK:=[.val .bool,.val tI,.val tI,.val .str]
def abP:List CK:=[.val .str,.val .str,.val tI,.val tI,.val tI,.val .bool,.val (.slice cE),.val (.slice bU),.val (.slice b9),.own 108 aq,.rowR 19,.rowR 10250004,.own 264 dL,.rowR 10250006,.rowR 21,.rowR 10250008]
def R5:List CK:=[.val .str,.val .str,.val tI,.val tI,.val tI,.val .bool,.val (.slice cE),.val (.slice bU),.val (.slice b9),.own 108 aq,.val (.slice aq),.own 108 aq,.own 264 dL,.own 108 aq,.own 4 .bool,.own 108 aq]
def JT:List CK:=[.val .str,.val .str,.val tI,.val tI,.val tI,.val .bool,.val (.slice cE),.val (.slice bU),.val (.slice b9),.rowR 10250002,.val (.slice aq),.rowR 10250004,.rowR 10250005,.rowR 10250006,.rowR 10250007,.rowR 10250008]
def R6:List CK:=[.val .str,.val .str,.val tI,.val tI,.val tI,.val .bool,.val (.slice cE),.val (.slice bU),.val (.slice b9),.rowR 10250002,.val (.slice aq),.rowR 10250004,.rowR 10250005,.rowR 10250006,.rowR 10250007,.rowR 13]
def Gz:List CK:=[.val tI,.val tI]
def kE:aK:=⟨[.val (.slice aq),.val (.clo 111 .unit)],[.val .bool],fun x=>iY x.1 x.2.1⟩
noncomputable def Ae:Cx:=⟨tpr,[(184,lZ)],[]⟩
theorem zF:aU Ae [] none Tryz.f110 kE:=by intro x;kernel_rfl
theorem Aj:aB tpr 110:=ay Tryz.func110 rfl (by decide)
theorem Ap:aR tpr 110 kE:=aL zF (.cons Cz Cu (.nil _)) aN Tryz.func110
def qu:aK:=⟨[.val (.slice aq)],[.row 108 aq],fun x=>ox x.1⟩
noncomputable def FI:Cx:=⟨tpr,[],[]⟩
theorem Fg:aU FI [] none Tryz.f178 qu:=by intro x;kernel_rfl
theorem FU:aB tpr 178:=ay Tryz.func178 rfl (by decide)
theorem FZ:aR tpr 178 qu:=aL Fg (.nil _) aN Tryz.func178
def HL:List (Nat×Ann):=[(4,⟨[(0,.ref 2000 0),(30,.val (.slice bU)),(31,.val tI),(32,.val tI)],[(2000,abP)],[.rowC 19 108 aq,.rowC 21 4 .bool,.rowC 10250004 108 aq,.rowC 10250006 108 aq,.rowC 10250008 108 aq],bB _⟩),
 (200004,⟨[(0,.ref 2000 0)],[(2000,abP)],[.rowC 19 108 aq,.rowC 21 4 .bool,.rowC 10250004 108 aq,.rowC 10250006 108 aq,.rowC 10250008 108 aq],fun _=>0⟩)]
def uZ:aK:=⟨[.box [.val aV,.row 108 aq,.val (.slice aq),.row 108 aq,.row 264 dL,.row 108 aq,.row 4 .bool,.row 108 aq]],[.val tI],fun x=>oC x.1⟩
noncomputable def JX:Cx:=⟨tpr,[(65,cN),(110,lG),(175,Jx),(176,uY),(178,qu)],[]⟩
theorem IZ:aU JX HL none Tryz.f106 uZ:=by intro x;kernel_rfl
theorem Ke:aB tpr 106:=ay Tryz.func106 rfl (by decide)
theorem Km:aR tpr 106 uZ:=aL IZ (.cons dR dP (.cons BI BC (.cons Zk Y8 (.cons DQ DL (.cons FZ FU (.nil _)))))) aN Tryz.func106
def rO:aK:=⟨[.box [.val aV,.row 108 aq,.val (.slice aq),.row 108 aq,.row 264 dL,.row 108 aq,.row 4 .bool,.row 108 aq],.val tI,.val aq],[],fun x=>gR x.1 x.2.1 x.2.2.1⟩
noncomputable def Mq:Cx:=⟨tpr,[(65,cN)],[]⟩
theorem KZ:aU Mq [] none Tryz.f180 rO:=by intro x;kernel_rfl
theorem Du:aB tpr 180:=ay Tryz.func180 rfl (by decide)
theorem Dx:aR tpr 180 rO:=aL KZ (.cons dR dP (.nil _)) aN Tryz.func180
def BU:aK:=⟨[.val aq],[.val aq],fun x=>Be x.1⟩
noncomputable def QM:Cx:=⟨tpr,[(115,mY)],[]⟩
theorem PF:aU QM [] none Tryz.f230 BU:=by intro x;kernel_rfl
theorem Rf:aB tpr 230:=ay Tryz.func230 rfl (by decide)
theorem Ru:aR tpr 230 BU:=aL PF (.cons rZ rX (.nil _)) aN Tryz.func230
def tP:aK:=⟨[.val tI],[.val .bool],fun x=>xo x.1⟩
noncomputable def IS:Cx:=⟨tpr,[],[]⟩
theorem HV:aU IS [] none Tryz.f232 tP:=by intro x;kernel_rfl
theorem Ja:aB tpr 232:=ay Tryz.func232 rfl (by decide)
theorem Jl:aR tpr 232 tP:=aL HV (.nil _) aN Tryz.func232
def E9:List (Nat×Ann):=[(2,⟨[(0,.val (.slice tI)),(1,.val (.clo 232 .unit)),(7,.val tI),(8,.val tI)],[],[],bB _⟩),
 (200002,⟨[],[],[],fun _=>0⟩)]
def q7:aK:=⟨[.val (.slice tI),.val (.clo 232 .unit)],[.val tI],fun x=>uX x.1 x.2.1⟩
noncomputable def GG:Cx:=⟨tpr,[(232,tP)],[]⟩
theorem FO:aU GG E9 none Tryz.f262 q7:=by intro x;kernel_rfl
theorem GY:aB tpr 262:=ay Tryz.func262 rfl (by decide)
theorem Hl:aR tpr 262 q7:=aL FO (.cons Jl Ja (.nil _)) aN Tryz.func262
def oH:aK:=⟨[.val (.slice tI),.val (.clo 232 .unit)],[.val .bool],fun x=>jH x.1 x.2.1⟩
noncomputable def EA:Cx:=⟨tpr,[(262,q7)],[]⟩
theorem DI:aU EA [] none Tryz.f231 oH:=by intro x;kernel_rfl
theorem EG:aB tpr 231:=ay Tryz.func231 rfl (by decide)
theorem ER:aR tpr 231 oH:=aL DI (.cons Hl GY (.nil _)) aN Tryz.func231
def Gt:List (Nat×Ann):=[(7,⟨[(3,.val tI),(12,.val (.slice tI)),(13,.val tI),(14,.val tI)],[],[],bB _⟩),
 (200007,⟨[(3,.val tI)],[],[],fun _=>0⟩)]
def tN:aK:=⟨[.val (.slice tI)],[.val tI],fun x=>rA x.1⟩
noncomputable def IN:Cx:=⟨tpr,[(35,dN)],[]⟩
theorem HS:aU IN Gt none Tryz.f263 tN:=by intro x;kernel_rfl
theorem I8:aB tpr 263:=ay Tryz.func263 rfl (by decide)
theorem Jj:aR tpr 263 tN:=aL HS (.cons fe eY (.nil _)) aN Tryz.func263
def s7:aK:=⟨[.val bh,.val bh],[.val tI],fun x=>l7 x.1 x.2.1⟩
noncomputable def Nl:Cx:=⟨tpr,[(127,mJ)],[]⟩
theorem My:aU Nl [] none Tryz.f265 s7:=by intro x;kernel_rfl
theorem ED:aB tpr 265:=ay Tryz.func265 rfl (by decide)
theorem EN:aR tpr 265 s7:=aL My (.cons vR vI (.nil _)) aN Tryz.func265
def sr:List (Nat×Ann):=[(1,⟨[(0,.rowR 10250000),(1,.val tI),(2,.val tI),(3,.val (.clo 265 .unit)),(8,.val tI)],[],[.rowC 10250000 329 bh],bB _⟩),
 (4,⟨[(0,.rowR 10250000),(1,.val tI),(2,.val tI),(3,.val (.clo 265 .unit)),(8,.val tI),(9,.val tI)],[],[.rowC 10250000 329 bh],bB _⟩),
 (200001,⟨[],[],[.rowC 10250000 329 bh],fun _=>0⟩),
 (200004,⟨[(0,.rowR 10250000),(1,.val tI),(2,.val tI),(3,.val (.clo 265 .unit)),(8,.val tI)],[],[.rowC 10250000 329 bh],fun _=>0⟩)]
def iq:aK:=⟨[.mrow 329 bh,.val tI,.val tI,.val (.clo 265 .unit)],[],fun x=>dn x.1 x.2.1 x.2.2.1 x.2.2.2.1⟩
noncomputable def uc:Cx:=⟨tpr,[(265,s7)],[]⟩
theorem tD:aU uc sr none Tryz.f286 iq:=by intro x;kernel_rfl
theorem uf:aB tpr 286:=ay Tryz.func286 rfl (by decide)
theorem ug:aR tpr 286 iq:=aL tD (.cons EN ED (.nil _)) aN Tryz.func286
def vj:List (Nat×Ann):=[(1,⟨[(0,.rowR 10250000),(1,.val tI),(2,.val tI),(3,.val tI),(10,.val tI)],[],[.rowC 10250000 329 bh],bB _⟩),
 (200001,⟨[],[],[.rowC 10250000 329 bh],fun _=>0⟩)]
def iU:aK:=⟨[.mrow 329 bh,.val tI,.val tI,.val tI,.val (.clo 265 .unit)],[],fun x=>cW x.1 x.2.1 x.2.2.1 x.2.2.2.1 x.2.2.2.2.1⟩
noncomputable def wE:Cx:=⟨tpr,[],[]⟩
theorem vE:aU wE vj none Tryz.f290 iU:=by intro x;kernel_rfl
theorem wK:aB tpr 290:=ay Tryz.func290 rfl (by decide)
theorem wN:aR tpr 290 iU:=aL vE (.nil _) aN Tryz.func290
def xg:List (Nat×Ann):=[(2,⟨[(0,.rowR 10250000),(2,.val tI),(4,.val (.clo 265 .unit)),(10,.val tI),(11,.val tI)],[],[.rowC 10250000 329 bh],bB _⟩),
 (200002,⟨[(0,.rowR 10250000),(2,.val tI),(4,.val (.clo 265 .unit)),(10,.val tI)],[],[.rowC 10250000 329 bh],fun _=>0⟩)]
def jM:aK:=⟨[.mrow 329 bh,.val tI,.val tI,.val tI,.val (.clo 265 .unit)],[],fun x=>iJ x.1 x.2.1 x.2.2.1 x.2.2.2.1 x.2.2.2.2.1⟩
noncomputable def yo:Cx:=⟨tpr,[(290,iU)],[]⟩
theorem x8:aU yo xg none Tryz.f289 jM:=by intro x;kernel_rfl
theorem yu:aB tpr 289:=ay Tryz.func289 rfl (by decide)
theorem yD:aR tpr 289 jM:=aL x8 (.cons wN wK (.nil _)) aN Tryz.func289
def l9:List (Nat×Ann):=[(3,⟨[(0,.rowR 10250000),(1,.val tI),(4,.val (.clo 265 .unit)),(10,.val tI),(11,.val tI)],[],[.rowC 10250000 329 bh],bB _⟩),
 (9,⟨[(0,.rowR 10250000),(10,.val tI),(13,.val tI)],[],[.rowC 10250000 329 bh],bB _⟩),
 (15,⟨[(0,.rowR 10250000),(2,.val tI),(4,.val (.clo 265 .unit)),(14,.val tI),(15,.val tI)],[],[.rowC 10250000 329 bh],bB _⟩),
 (21,⟨[(0,.rowR 10250000),(14,.val tI),(17,.val tI)],[],[.rowC 10250000 329 bh],bB _⟩),
 (33,⟨[(0,.rowR 10250000),(1,.val tI),(2,.val tI),(3,.val tI),(4,.val (.clo 265 .unit)),(18,.val tI),(19,.val tI),(20,.val tI),(21,.val tI),(22,.val tI)],[],[.rowC 10250000 329 bh],bB _⟩),
 (100030,⟨[(0,.rowR 10250000),(1,.val tI),(2,.val tI),(3,.val tI),(4,.val (.clo 265 .unit)),(18,.val tI),(19,.val tI),(20,.val tI),(21,.val tI)],[],[.rowC 10250000 329 bh],fun _=>0⟩),
 (100040,⟨[(0,.rowR 10250000),(1,.val tI),(3,.val tI),(4,.val (.clo 265 .unit)),(18,.val tI),(20,.val tI),(24,.val tI)],[],[.rowC 10250000 329 bh],fun _=>0⟩),
 (100042,⟨[(0,.rowR 10250000),(3,.val tI),(4,.val (.clo 265 .unit)),(18,.val tI),(24,.val tI)],[],[.rowC 10250000 329 bh],fun _=>0⟩),
 (200003,⟨[(0,.rowR 10250000),(1,.val tI),(10,.val tI)],[],[.rowC 10250000 329 bh],fun _=>0⟩),
 (200009,⟨[],[],[.rowC 10250000 329 bh],fun _=>0⟩),
 (200015,⟨[(0,.rowR 10250000),(2,.val tI),(14,.val tI)],[],[.rowC 10250000 329 bh],fun _=>0⟩),
 (200021,⟨[],[],[.rowC 10250000 329 bh],fun _=>0⟩),
 (200033,⟨[(0,.rowR 10250000),(1,.val tI),(2,.val tI),(3,.val tI),(4,.val (.clo 265 .unit)),(18,.val tI),(19,.val tI),(20,.val tI)],[],[.rowC 10250000 329 bh],fun _=>0⟩)]
def bW:List PM:=[.mrow 329 bh,.val tI,.val tI,.val tI,.val (.clo 265 .unit)]
def cF:List RM:=[]
noncomputable def mR:List (Nat×aK):=[(265,s7),(289,jM)]
def nH:aK:=⟨bW,cF,fun x=>eF x.1 x.2.1 x.2.2.1 x.2.2.2.1 x.2.2.2.2.1⟩
theorem wG:∀ (self:gY bW→Option (dO bW cF)) (x:gY bW),QU ⟨tpr,(287,⟨bW,cF,self⟩)::mR,[]⟩ l9 none Tryz.f287 ⟨bW,cF,fun x=>cn self x.1 x.2.1 x.2.2.1 x.2.2.2.1 x.2.2.2.2.1⟩ x=cn self x.1 x.2.1 x.2.2.1 x.2.2.2.1 x.2.2.2.2.1:=by intro self x;kernel_rfl
theorem ny:aB tpr 287:=ay Tryz.func287 rfl (by decide)
theorem xC:aR tpr 287 nH:=Y6 (ps:=bW) (rs:=cF) (m:=fun n x=>Hr (fun self x=>cn self x.1 x.2.1 x.2.2.1 x.2.2.2.1 x.2.2.2.2.1) n x) (SK (P:=Tryz.prog) (specs:=mR) (ps:=bW) (rs:=cF) (.cons EN ED (.cons yD yu (.nil _))) (by kernel_rfl) (fun self x=>cn self x.1 x.2.1 x.2.2.1 x.2.2.2.1 x.2.2.2.2.1) l9 none (by kernel_rfl) ny wG) (fun x=>iQ x.1 x.2.1 x.2.2.1 x.2.2.2.1 x.2.2.2.2.1)
def xh:List (Nat×Ann):=[(2,⟨[(0,.rowR 10250000),(1,.val tI),(2,.val (.clo 265 .unit)),(6,.val tI),(7,.val tI),(8,.val tI)],[],[.rowC 10250000 329 bh],bB _⟩),
 (7,⟨[(0,.rowR 10250000),(1,.val tI),(2,.val (.clo 265 .unit)),(6,.val tI)],[],[.rowC 10250000 329 bh],bB _⟩),
 (9,⟨[(0,.rowR 10250000),(1,.val tI),(2,.val (.clo 265 .unit)),(6,.val tI),(7,.val tI),(8,.val tI)],[],[.rowC 10250000 329 bh],bB _⟩),
 (200002,⟨[(0,.rowR 10250000),(1,.val tI),(2,.val (.clo 265 .unit)),(6,.val tI),(7,.val tI)],[],[.rowC 10250000 329 bh],fun _=>0⟩),
 (200007,⟨[],[],[.rowC 10250000 329 bh],fun _=>0⟩),
 (200009,⟨[(0,.rowR 10250000),(1,.val tI),(2,.val (.clo 265 .unit)),(6,.val tI),(7,.val tI)],[],[.rowC 10250000 329 bh],fun _=>0⟩)]
def jN:aK:=⟨[.mrow 329 bh,.val tI,.val (.clo 265 .unit)],[],fun x=>kW x.1 x.2.1 x.2.2.1⟩
noncomputable def yp:Cx:=⟨tpr,[(286,iq),(287,nH)],[]⟩
theorem x9:aU yp xh none Tryz.f281 jN:=by intro x;kernel_rfl
theorem yw:aB tpr 281:=ay Tryz.func281 rfl (by decide)
theorem yE:aR tpr 281 jN:=aL x9 (.cons ug uf (.cons xC ny (.nil _))) aN Tryz.func281
def jl:aK:=⟨[.mrow 329 bh,.val (.clo 265 .unit)],[],fun x=>eN x.1 x.2.1⟩
noncomputable def x7:Cx:=⟨tpr,[(281,jN)],[]⟩
theorem xw:aU x7 [] none Tryz.f264 jl:=by intro x;kernel_rfl
theorem ya:aB tpr 264:=ay Tryz.func264 rfl (by decide)
theorem yb:aR tpr 264 jl:=aL xw (.cons yE yw (.nil _)) aN Tryz.func264
def MV:List (Nat×Ann):=[(9,⟨[(1,.val (.slice tI)),(2,.ref 2 0),(8,.val tI),(33,.val (.slice tI)),(34,.val tI),(35,.val tI)],[(2,Gz)],[],bB _⟩),
 (17,⟨[(2,.ref 2 0),(8,.val tI),(11,.val tI),(12,.val tI),(13,.own 329 bh),(50,.val (.slice tI)),(51,.val tI),(52,.val tI)],[(2,Gz)],[],bB _⟩),
 (27,⟨[(2,.ref 2 0),(12,.val tI),(20,.rowR 88),(89,.own 329 bh),(90,.val tI),(91,.val tI)],[(2,Gz)],[.rowC 88 55 aH],bB _⟩),
 (100030,⟨[(2,.ref 2 0),(12,.val tI),(20,.rowR 88),(22,.ref 22 0),(89,.own 329 bh),(90,.val tI),(91,.val tI)],[(2,Gz),(22,[.val tI,.val tI,.val .bool,.val (.slice (.int .u32))])],[.rowC 88 55 aH],fun _=>0⟩),
 (100032,⟨[(2,.ref 2 0),(12,.val tI),(20,.rowR 88),(22,.ref 22 0),(89,.own 329 bh),(90,.val tI),(91,.val tI)],[(2,Gz),(22,[.val tI,.val tI,.val .bool,.val (.slice (.int .u32))])],[.rowC 88 55 aH],fun _=>0⟩),
 (200009,⟨[(1,.val (.slice tI)),(2,.ref 2 0),(8,.val tI)],[(2,Gz)],[],fun _=>0⟩),
 (200017,⟨[(2,.ref 2 0),(12,.val tI),(13,.own 329 bh)],[(2,Gz)],[],fun _=>0⟩),
 (200027,⟨[(20,.rowR 88)],[],[.rowC 88 55 aH],fun _=>0⟩)]
def BP:aK:=⟨[.val aH,.val (.slice tI)],[.val (.slice aH),.val tI],fun x=>wC x.1 x.2.1⟩
noncomputable def QF:Cx:=⟨tpr,[(64,fU),(82,tg),(114,dW),(119,gO),(121,nY),(263,tN),(264,jl)],[]⟩
theorem Py:aU QF MV none Tryz.f233 BP:=by intro x;kernel_rfl
theorem Q9:aB tpr 233:=ay Tryz.func233 rfl (by decide)
theorem Rp:aR tpr 233 BP:=aL Py (.cons iG iF (.cons CZ CS (.cons gV gT (.cons jD jy (.cons vS vJ (.cons Jj I8 (.cons yb ya (.nil _)))))))) aN Tryz.func233
def IF:List (Nat×Ann):=[(4,⟨[(0,.ref 2000 0),(3,.ref 3 0),(5,.own 3 tI),(6,.val .bool),(20,.val (.slice aq)),(21,.val tI),(22,.val tI)],[(3,Ez),(2000,JT)],[.rowC 10250002 108 aq,.rowC 10250004 108 aq,.rowC 10250005 264 dL,.rowC 10250006 108 aq,.rowC 10250007 4 .bool,.rowC 10250008 108 aq],bB _⟩),
 (21,⟨[(0,.ref 2000 0),(84,.val (.slice aH)),(85,.val tI),(86,.val tI)],[(2000,R5)],[],bB _⟩),
 (200004,⟨[(0,.ref 2000 0),(3,.ref 3 0),(5,.own 3 tI),(6,.val .bool)],[(3,Ez),(2000,JT)],[.rowC 10250002 108 aq,.rowC 10250004 108 aq,.rowC 10250005 264 dL,.rowC 10250006 108 aq,.rowC 10250007 4 .bool,.rowC 10250008 108 aq],fun _=>0⟩),
 (200021,⟨[],[(2000,R5)],[],fun _=>0⟩)]
def vZ:aK:=⟨[.box [.val aV,.row 108 aq,.val (.slice aq),.row 108 aq,.row 264 dL,.row 108 aq,.row 4 .bool,.row 108 aq],.val aq],[.val tI],fun x=>je x.1 x.2.1⟩
noncomputable def KT:Cx:=⟨tpr,[(41,ir),(64,fU),(67,qB),(121,nY),(180,rO),(230,BU),(231,oH),(233,BP)],[]⟩
theorem J6:aU KT IF none Tryz.f181 vZ:=by intro x;kernel_rfl
theorem Lh:aB tpr 181:=ay Tryz.func181 rfl (by decide)
theorem LA:aR tpr 181 vZ:=aL J6 (.cons ku kr (.cons iG iF (.cons zO zI (.cons vS vJ (.cons Dx Du (.cons Ru Rf (.cons ER EG (.cons Rp Q9 (.nil _))))))))) aN Tryz.func181
def JM:List (Nat×Ann):=[(6,⟨[(0,.ref 2000 0),(3,.ref 3 0),(5,.ref 5 0),(6,.val tI),(7,.val .bool),(35,.val (.slice aq)),(36,.val tI),(37,.val tI)],[(3,Xc),(5,Ez),(2000,JT)],[.rowC 10250002 108 aq,.rowC 10250004 108 aq,.rowC 10250005 264 dL,.rowC 10250006 108 aq,.rowC 10250007 4 .bool,.rowC 10250008 108 aq],bB _⟩),
 (100005,⟨[(0,.ref 2000 0),(3,.ref 3 0),(5,.ref 5 0),(6,.val tI),(7,.val .bool)],[(3,Xc),(5,Ez),(2000,JT)],[.rowC 10250002 108 aq,.rowC 10250004 108 aq,.rowC 10250005 264 dL,.rowC 10250006 108 aq,.rowC 10250007 4 .bool,.rowC 10250008 108 aq],fun _=>0⟩),
 (100012,⟨[(0,.ref 2000 0),(6,.val tI),(7,.val .bool),(10,.ref 10 0)],[(10,Ez),(2000,JT)],[.rowC 10250002 108 aq,.rowC 10250004 108 aq,.rowC 10250005 264 dL,.rowC 10250006 108 aq,.rowC 10250007 4 .bool,.rowC 10250008 108 aq],fun _=>0⟩),
 (200006,⟨[(0,.ref 2000 0),(3,.ref 3 0),(5,.ref 5 0),(6,.val tI),(7,.val .bool)],[(3,Xc),(5,Ez),(2000,JT)],[.rowC 10250002 108 aq,.rowC 10250004 108 aq,.rowC 10250005 264 dL,.rowC 10250006 108 aq,.rowC 10250007 4 .bool,.rowC 10250008 108 aq],fun _=>0⟩)]
def xH:aK:=⟨[.box [.val aV,.row 108 aq,.val (.slice aq),.row 108 aq,.row 264 dL,.row 108 aq,.row 4 .bool,.row 108 aq],.val b9],[.val tI],fun x=>nK x.1 x.2.1⟩
noncomputable def Ms:Cx:=⟨tpr,[(64,fU),(65,cN),(66,nV),(110,kC),(112,mE),(176,uY),(179,yS),(180,rO),(181,vZ)],[]⟩
theorem K2:aU Ms JM none Tryz.f107 xH:=by intro x;kernel_rfl
theorem MK:aB tpr 107:=ay Tryz.func107 rfl (by decide)
theorem MN:aR tpr 107 xH:=aL K2 (.cons iG iF (.cons dR dP (.cons vQ vH (.cons An Ah (.cons qM qE (.cons DQ DL (.cons Hf GS (.cons Dx Du (.cons LA Lh (.nil _)))))))))) aN Tryz.func107
def Mm:List (Nat×Ann):=[(3,⟨[(0,.ref 2000 0),(20,.val (.slice cE)),(21,.val tI),(22,.val tI)],[(2000,R6)],[.rowC 13 108 aq,.rowC 10250002 108 aq,.rowC 10250004 108 aq,.rowC 10250005 264 dL,.rowC 10250006 108 aq,.rowC 10250007 4 .bool],bB _⟩),
 (9,⟨[(0,.ref 2000 0),(57,.rowR 10250005),(58,.val tI),(59,.val tI)],[(2000,R6)],[.rowC 13 108 aq,.rowC 10250002 108 aq,.rowC 10250004 108 aq,.rowC 10250005 264 dL,.rowC 10250006 108 aq,.rowC 10250007 4 .bool],bB _⟩),
 (200003,⟨[(0,.ref 2000 0)],[(2000,R6)],[.rowC 13 108 aq,.rowC 10250002 108 aq,.rowC 10250004 108 aq,.rowC 10250005 264 dL,.rowC 10250006 108 aq,.rowC 10250007 4 .bool],fun _=>0⟩),
 (200009,⟨[(0,.ref 2000 0)],[(2000,R6)],[.rowC 13 108 aq,.rowC 10250002 108 aq,.rowC 10250004 108 aq,.rowC 10250005 264 dL,.rowC 10250006 108 aq,.rowC 10250007 4 .bool],fun _=>0⟩)]
def Au:aK:=⟨[.box [.val aV,.row 108 aq,.val (.slice aq),.row 108 aq,.row 264 dL,.row 108 aq,.row 4 .bool,.row 108 aq]],[.val tI],fun x=>zz x.1⟩
noncomputable def Pq:Cx:=⟨tpr,[(65,cN),(110,kD),(179,yS)],[]⟩
theorem NB:aU Pq Mm none Tryz.f108 Au:=by intro x;kernel_rfl
theorem PO:aB tpr 108:=ay Tryz.func108 rfl (by decide)
theorem PU:aR tpr 108 Au:=aL NB (.cons dR dP (.cons Ao Ai (.cons Hf GS (.nil _)))) aN Tryz.func108
def Mn:List (Nat×Ann):=[(9,⟨[(5,.ref 18 0),(25,.val (.slice b9)),(26,.val tI),(27,.val tI)],[(18,R5)],[.ar vf],bB _⟩),
 (200009,⟨[(5,.ref 18 0)],[(18,R5)],[.ar vf],fun _=>0⟩)]
def Av:aK:=⟨[.val aV,.ar vf],[.val .hnd,.val tI],fun x=>nL x.1 x.2.1⟩
noncomputable def Pr:Cx:=⟨tpr,[(49,iR),(106,uZ),(107,xH),(108,Au)],[]⟩
theorem NC:aU Pr Mn none Tryz.f61 Av:=by intro x;kernel_rfl
theorem PR:aB tpr 61:=ay Tryz.func61 rfl (by decide)
theorem PV:aR tpr 61 Av:=aL NC (.cons mw mo (.cons Km Ke (.cons MN MK (.cons PU PO (.nil _))))) aN Tryz.func61
def VU:List (Nat×Ann):=[(3,⟨[(2,.ref 2 0),(3,.ref 3 0),(7,.val (.slice aq)),(8,.val tI),(9,.val tI)],[(2,[.val .bool,.own 203 (.int .u32)]),(3,Ez)],[],bB _⟩),
 (200003,⟨[(2,.ref 2 0),(3,.ref 3 0)],[(2,[.val .bool,.own 203 (.int .u32)]),(3,Ez)],[],fun _=>0⟩)]
def Jy:aK:=⟨[.val (.slice aq)],[.val aq],fun x=>DD x.1⟩
noncomputable def YV:Cx:=⟨tpr,[(64,fU),(65,cN)],[]⟩
theorem Xl:aU YV VU none Tryz.f109 Jy:=by intro x;kernel_rfl
theorem Y9:aB tpr 109:=ay Tryz.func109 rfl (by decide)
theorem Zl:aR tpr 109 Jy:=aL Xl (.cons iG iF (.cons dR dP (.nil _))) aN Tryz.func109
def yU:aK:=⟨[.val .hnd,.val aq,.arR vf],[.val aH],fun x=>kJ x.1 x.2.1 x.2.2.1⟩
noncomputable def No:Cx:=⟨tpr,[(67,qB)],[]⟩
theorem MA:aU No [] none Tryz.f113 yU:=by intro x;kernel_rfl
theorem NR:aB tpr 113:=ay Tryz.func113 rfl (by decide)
theorem Oj:aR tpr 113 yU:=aL MA (.cons zO zI (.nil _)) aN Tryz.func113
def we:aK:=⟨[.val .hnd,.arR vf],[.val OE,.val tI],fun x=>ux x.1 x.2.1⟩
noncomputable def KU:Cx:=⟨tpr,[(65,cN),(109,Jy),(110,kE),(113,yU)],[]⟩
theorem J7:aU KU [] none Tryz.f62 we:=by intro x;kernel_rfl
theorem Li:aB tpr 62:=ay Tryz.func62 rfl (by decide)
theorem LB:aR tpr 62 we:=aL J7 (.cons dR dP (.cons Zl Y9 (.cons Ap Aj (.cons Oj NR (.nil _))))) aN Tryz.func62
def D2:aK:=⟨[.val aV],[.val OE,.val tI],fun x=>AE x.1⟩
noncomputable def T3:Cx:=⟨tpr,[(61,Av),(62,we)],[]⟩
theorem Sp:aU T3 [] (some vf) Tryz.f28 D2:=by intro x;kernel_rfl
theorem Uo:aB tpr 28:=ay Tryz.func28 rfl (by decide)
theorem UD:aR tpr 28 D2:=aL Sp (.cons PV PR (.cons LB Li (.nil _))) aN Tryz.func28
def zZ:List (Nat×Ann):=[(300002,⟨[(52,.val .bool)],[],[],fun _=>0⟩),
 (300003,⟨[(8,.val .bool)],[],[],fun _=>0⟩),
 (300015,⟨[(167,.val .bool)],[],[],fun _=>0⟩),
 (300020,⟨[(8,.val .bool)],[],[],fun _=>0⟩),
 (300022,⟨[(8,.val .bool)],[],[],fun _=>0⟩)]
def q8:aK:=⟨[.val bT,.val (.slice bp),.val aV,.val tI],[.val .bool],fun x=>jw x.1 x.2.1 x.2.2.1 x.2.2.2.1⟩
noncomputable def Bo:Cx:=⟨tpr,[(18,BR),(20,qZ),(21,DZ),(25,JB),(26,BQ),(27,qW),(28,D2),(29,A9)],[]⟩
theorem AI:aU Bo zZ none Tryz.f7 q8:=by intro x;kernel_rfl
theorem BJ:aR tpr 7 q8:=aL AI (.cons Rr Rb (.cons Hj GX (.cons UC Un (.cons Zn Zb (.cons Rq Ra (.cons BH BA (.cons UD Uo (.cons Me Ma (.nil _))))))))) aN Tryz.func7
end Go.Proofs.SeatA
end
