/-
  Each function that the law reaches is as its plain model says, a further part. No condition.
-/
import Derived.Test.YtjlkkapojeldlaaGreatDoorYx
set_option maxRecDepth 100000
noncomputable section
namespace Go.Proofs.SeatU
open Go.Dn Go.Md Go.Proofs
def yV:List CK:=[.val .bool,.own 3 tI]
def uy:List CK:=[.val .str,.val .str,.val tI,.val (.slice aK)]
def FV:List (Nat×Ann):=[(3,⟨[(3,.val tI),(6,.val (.slice tI)),(7,.val tI),(8,.val tI)],[],[],aY _⟩),
 (200003,⟨[(3,.val tI)],[],[],fun _=>0⟩)]
def Bo:ax:=⟨[.val (.slice tI)],[.val tI],fun x=>vI x.1⟩
noncomputable def J3:Cx:=⟨tpr,[],[]⟩
theorem Kf:FB 172 Bo:=fbk J3 FV none (by intro x;kernel_rfl) (.nil _) Tryz.func172
def nc:ax:=⟨[.val bL,.val bL],[.val tI],fun x=>eE x.1 x.2.1⟩
noncomputable def vJ:Cx:=⟨tpr,[(127,gJ),(172,Bo)],[]⟩
theorem vL:FB 124 nc:=fbk vJ [] none (by intro x;kernel_rfl) (.cons nG ny (cz Kf (.nil _))) Tryz.func124
def vG:List (Nat×Ann):=[(4,⟨[(0,.val (.slice bL)),(9,.val (.slice bL)),(10,.val tI),(11,.val tI)],[],[],aY _⟩),
 (200004,⟨[],[],[],fun _=>0⟩)]
def oO:ax:=⟨[.val (.slice bL)],[.val tI],fun x=>fN x.1⟩
noncomputable def xB:Cx:=⟨tpr,[(34,vm),(68,kg),(124,nc)],[]⟩
theorem xC:FB 69 oO:=fbk xB vG none (by intro x;kernel_rfl) (cz Ba (cz pq (cz vL (.nil _)))) Tryz.func69
def qZ:ax:=⟨[.val (.slice aK),.val tI],[.val tI],fun x=>jE x.1 x.2.1⟩
noncomputable def za:Cx:=⟨tpr,[(67,vC),(68,kg),(69,oO)],[]⟩
theorem zg:FB 36 qZ:=fbk za [] none (by intro x;kernel_rfl) (cz D4 (cz pq (cz xC (.nil _)))) Tryz.func36
def su:ax:=⟨[.val aK,.val .str],[.val tI],fun x=>oQ x.1 x.2.1⟩
noncomputable def Ah:Cx:=⟨tpr,[(127,gJ)],[]⟩
theorem Ap:FB 126 su:=fbk Ah [] none (by intro x;kernel_rfl) (.cons nG ny (.nil _)) Tryz.func126
def jd:List (Nat×Ann):=[(3,⟨[(0,.val (.slice aK)),(1,.val .str),(2,.val (.clo 126 .unit)),(8,.val tI),(9,.val tI),(10,.val tI)],[],[],aY _⟩),
 (200003,⟨[(0,.val (.slice aK)),(1,.val .str),(2,.val (.clo 126 .unit)),(8,.val tI),(9,.val tI)],[],[],fun _=>0⟩)]
def eL:ax:=⟨[.val (.slice aK),.val .str,.val (.clo 126 .unit)],[.val tI,.val .bool],fun x=>cw x.1 x.2.1 x.2.2.1⟩
noncomputable def jV:Cx:=⟨tpr,[(126,su)],[]⟩
theorem jW:FB 125 eL:=fbk jV jd none (by intro x;kernel_rfl) (cz Ap (.nil _)) Tryz.func125
def nT:ax:=⟨[.val eM,.val .str],[.val tI,.val .bool],fun x=>jD x.1 x.2.1⟩
noncomputable def B7:Cx:=⟨tpr,[(125,eL)],[]⟩
theorem uE:FB 70 nT:=fbk B7 [] none (by intro x;kernel_rfl) (cz jW (.nil _)) Tryz.func70
def BO:List (Nat×Ann):=[(3,⟨[(1,.val tI),(2,.ref 2 0),(6,.own 3 tI),(7,.val tI)],[(2,uy)],[],aY _⟩),
 (200003,⟨[(6,.own 3 tI)],[],[],fun _=>0⟩)]
def xb:ax:=⟨[.val eM,.val tI],[.val (.slice tI),.val .bool],fun x=>mq x.1 x.2.1⟩
noncomputable def E9:Cx:=⟨tpr,[(70,nT),(128,ki)],[]⟩
theorem Fh:FB 71 xb:=fbk E9 BO none (by intro x;kernel_rfl) (cz uE (cz pz (.nil _))) Tryz.func71
def yO:List (Nat×Ann):=[(2,⟨[(1,.ref 1 0),(14,.val (.slice aK)),(15,.val tI),(16,.val tI)],[(1,uy)],[],aY _⟩),
 (9,⟨[(1,.ref 1 0),(37,.val tI),(38,.val tI)],[(1,uy)],[],aY _⟩),
 (16,⟨[(1,.ref 1 0),(52,.val tI),(53,.val tI)],[(1,uy)],[],aY _⟩),
 (200002,⟨[(1,.ref 1 0)],[(1,uy)],[],fun _=>0⟩),
 (200009,⟨[(1,.ref 1 0)],[(1,uy)],[],fun _=>0⟩),
 (200016,⟨[],[],[],fun _=>0⟩)]
def sK:ax:=⟨[.val eM],[.val tI],fun x=>lX x.1⟩
noncomputable def Bw:Cx:=⟨tpr,[(70,nT),(71,xb)],[]⟩
theorem BC:FB 37 sK:=fbk Bw yO none (by intro x;kernel_rfl) (cz uE (cz Fh (.nil _))) Tryz.func37
def xA:List (Nat×Ann):=[(8,⟨[(1,.ref 1 0),(28,.val tI),(29,.val tI)],[(1,uy)],[],aY _⟩),
 (200008,⟨[(1,.ref 1 0)],[(1,uy)],[],fun _=>0⟩)]
def qY:ax:=⟨[.val eM],[.val tI],fun x=>dQ x.1⟩
noncomputable def yZ:Cx:=⟨tpr,[(34,vm),(35,C5),(36,qZ),(37,sK)],[]⟩
theorem ym:pS yZ xA none Tryz.f13 qY:=by intro x;kernel_rfl
theorem zq:bO tpr 13 qY:=kN ym (cz Ba (cz Ll (cz zg (cz BC (.nil _))))) nE Tryz.func13
def wA:List (Nat×Ann):=[(2,⟨[(0,.val (.slice .str)),(1,.val .str),(7,.val tI),(8,.val tI)],[],[],aY _⟩),
 (200002,⟨[],[],[],fun _=>0⟩)]
def pO:ax:=⟨[.val (.slice .str),.val .str],[.val tI],fun x=>gk x.1 x.2.1⟩
noncomputable def yl:Cx:=⟨tpr,[],[]⟩
theorem yp:FB 73 pO:=fbk yl wA none (by intro x;kernel_rfl) (.nil _) Tryz.func73
def ni:ax:=⟨[.val (.slice .str),.val .str],[.val .bool],fun x=>bA x.1 x.2.1⟩
noncomputable def vK:Cx:=⟨tpr,[(73,pO)],[]⟩
theorem vf:pS vK [] none Tryz.f39 ni:=by intro x;kernel_rfl
theorem vO:bO tpr 39 ni:=kN vf (cz yp (.nil _)) nE Tryz.func39
def FW:List (Nat×Ann):=[(5,⟨[(0,.val .str),(4,.val tI),(24,.val tI),(25,.val tI)],[],[],aY _⟩),
 (200005,⟨[(4,.val tI)],[],[],fun _=>0⟩),
 (300001,⟨[(22,.val .bool)],[],[],fun _=>0⟩)]
def Bq:ax:=⟨[.val .str],[.val tI,.val .bool],fun x=>rV x.1⟩
noncomputable def J7:Cx:=⟨tpr,[],[]⟩
theorem Ie:pS J7 FW none Tryz.f40 Bq:=by intro x;kernel_rfl
theorem Kl:bO tpr 40 Bq:=kN Ie (.nil _) nE Tryz.func40
def E0:List (Nat×Ann):=[(4,⟨[(0,.val .str),(7,.val tI),(8,.val tI)],[],[],aY _⟩),
 (200004,⟨[],[],[],fun _=>0⟩)]
def tF:ax:=⟨[.val .str],[.val .bool],fun x=>dw x.1⟩
noncomputable def H7:Cx:=⟨tpr,[],[]⟩
theorem zh:FB 74 tF:=fbk H7 E0 none (by intro x;kernel_rfl) (.nil _) Tryz.func74
def E1:List (Nat×Ann):=[(3,⟨[(0,.val .str),(4,.val tI),(7,.val tI),(8,.val tI)],[],[],aY _⟩),
 (200003,⟨[(4,.val tI)],[],[],fun _=>0⟩)]
def zR:ax:=⟨[.val .str],[.val tI,.val .bool],fun x=>uo x.1⟩
noncomputable def H9:Cx:=⟨tpr,[],[]⟩
theorem Ip:FB 75 zR:=fbk H9 E1 none (by intro x;kernel_rfl) (.nil _) Tryz.func75
def EZ:List (Nat×Ann):=[(300005,⟨[(51,.val .bool)],[],[],fun _=>0⟩),
 (300007,⟨[(60,.val .bool)],[],[],fun _=>0⟩)]
def zP:ax:=⟨[.val .str],[.val cD,.val tI],fun x=>ke x.1⟩
noncomputable def H6:Cx:=⟨tpr,[(14,oL),(63,l6),(66,nk),(74,tF),(75,zR)],[]⟩
theorem Gi:pS H6 EZ none Tryz.f41 zP:=by intro x;kernel_rfl
theorem II:bO tpr 41 zP:=kN Gi (cz ox (cz rC (.cons xT xM (cz zh (cz Ip (.nil _)))))) nE Tryz.func41
def EH:ax:=⟨[.val .str],[.val .str],fun x=>tu x.1⟩
noncomputable def ME:Cx:=⟨tpr,[],[]⟩
theorem Lg:pS ME [] none Tryz.f42 EH:=by intro x;kernel_rfl
theorem M8:bO tpr 42 EH:=kN Lg (.nil _) nE Tryz.func42
def HL:List (Nat×Ann):=[(4,⟨[(0,.val .str),(23,.val tI),(24,.val tI)],[],[],aY _⟩),
 (200004,⟨[],[],[],fun _=>0⟩)]
def Dc:ax:=⟨[.val .str],[.val .bool],fun x=>CZ x.1⟩
noncomputable def Lb:Cx:=⟨tpr,[],[]⟩
theorem Lt:FB 76 Dc:=fbk Lb HL none (by intro x;kernel_rfl) (.nil _) Tryz.func76
def xd:ax:=⟨[.val .str],[.val .bool],fun x=>lC x.1⟩
noncomputable def K9:Cx:=⟨tpr,[(76,Dc)],[]⟩
theorem Ck:FB 43 xd:=fbk K9 [] none (by intro x;kernel_rfl) (cz Lt (.nil _)) Tryz.func43
def nU:ax:=⟨[.val tI,.val tI,.val tI],[.val .bool],fun x=>lE x.1 x.2.1 x.2.2.1⟩
noncomputable def Ld:Cx:=⟨tpr,[],[]⟩
theorem rB:FB 133 nU:=fbk Ld [] none (by intro x;kernel_rfl) (.nil _) Tryz.func133
def EM:ax:=⟨[.val tI],[.val .bool],fun x=>FG x.1⟩
noncomputable def MJ:Cx:=⟨tpr,[(133,nU)],[]⟩
theorem MS:FB 77 EM:=fbk MJ [] none (by intro x;kernel_rfl) (cz rB (.nil _)) Tryz.func77
def EI:ax:=⟨[.val tI],[.val .bool],fun x=>AT x.1⟩
noncomputable def MF:Cx:=⟨tpr,[(77,EM)],[]⟩
theorem MO:FB 44 EI:=fbk MF [] none (by intro x;kernel_rfl) (cz MS (.nil _)) Tryz.func44
def Db:ax:=⟨[.val tI],[.val .bool],fun x=>CY x.1⟩
noncomputable def La:Cx:=⟨tpr,[(133,nU)],[]⟩
theorem Lr:FB 134 Db:=fbk La [] none (by intro x;kernel_rfl) (cz rB (.nil _)) Tryz.func134
def HM:List (Nat×Ann):=[(3,⟨[(0,.val .str),(3,.val tI),(7,.val tI),(8,.val tI)],[],[],aY _⟩),
 (200003,⟨[(3,.val tI)],[],[],fun _=>0⟩)]
def Dd:ax:=⟨[.val .str],[.val .bool],fun x=>lD x.1⟩
noncomputable def Lc:Cx:=⟨tpr,[],[]⟩
theorem Lu:FB 177 Dd:=fbk Lc HM none (by intro x;kernel_rfl) (.nil _) Tryz.func177
def zQ:ax:=⟨[.val tI,.val .str],[.val .bool],fun x=>yB x.1 x.2.1⟩
noncomputable def H8:Cx:=⟨tpr,[(74,tF),(133,nU),(177,Dd),(178,x8),(179,x9),(180,De),(181,zS)],[]⟩
theorem Io:FB 135 zQ:=fbk H8 [] none (by intro x;kernel_rfl) (cz zh (cz rB (cz Lu (.cons GN Gy (.cons GO Gz (.cons L4 LF (.cons IJ Iv (.nil _)))))))) Tryz.func135
def zO:ax:=⟨[.val tI,.val .str],[.val .bool,.val tI],fun x=>yz x.1 x.2.1⟩
noncomputable def HZ:Cx:=⟨tpr,[(134,Db),(135,zQ)],[]⟩
theorem Im:FB 78 zO:=fbk HZ [] none (by intro x;kernel_rfl) (cz Lr (cz Io (.nil _))) Tryz.func78
def zN:ax:=⟨[.val .str],[.val .bool],fun x=>ud x.1⟩
noncomputable def HY:Cx:=⟨tpr,[(78,zO)],[]⟩
theorem Il:FB 45 zN:=fbk HY [] none (by intro x;kernel_rfl) (cz Im (.nil _)) Tryz.func45
def uX:ax:=⟨[.val cD],[.val tI],fun x=>jK x.1⟩
noncomputable def Ca:Cx:=⟨tpr,[(133,nU)],[]⟩
theorem Cj:FB 79 uX:=fbk Ca [] none (by intro x;kernel_rfl) (cz rB (.nil _)) Tryz.func79
def Oe:List (Nat×Ann):=[(2,⟨[(0,.val tI),(2,.ref 2 0),(3,.ref 3 0)],[(2,yV),(3,yV)],[],aY _⟩),
 (200002,⟨[(2,.ref 2 0),(3,.ref 3 0)],[(2,yV),(3,yV)],[],fun _=>0⟩)]
def FJ:ax:=⟨[.val tI],[.val bf],fun x=>DL x.1⟩
noncomputable def QS:Cx:=⟨tpr,[],[]⟩
theorem Lp:FB 186 FJ:=fbk QS Oe none (by intro x;kernel_rfl) (.nil _) Tryz.func186
def FY:List (Nat×Ann):=[(1,⟨[(1,.ref 1 0),(2,.ref 2 0)],[(1,[.val .bool,.val (.slice tI)]),(2,yV)],[],aY _⟩),
 (200001,⟨[(1,.ref 1 0),(2,.ref 2 0)],[(1,[.val .bool,.val (.slice tI)]),(2,yV)],[],fun _=>0⟩)]
def vp:ax:=⟨[.val bf],[.val bf],fun x=>jM x.1⟩
noncomputable def J9:Cx:=⟨tpr,[],[]⟩
theorem Be:FB 204 vp:=fbk J9 FY none (by intro x;kernel_rfl) (.nil _) Tryz.func204
end Go.Proofs.SeatU
end
