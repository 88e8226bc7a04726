/-
  Each function that the law reaches is as its plain model says, a further part. No condition.
-/
import Derived.Test.YtjlkkapojeldlabGreatDoorYy
set_option maxRecDepth 100000
noncomputable section
namespace Go.Proofs.SeatU
open Go.Dn Go.Md Go.Proofs
def qv:List CK:=[.val .bool,.own 3 tI]
def xX:List CK:=[.val .bool,.val (.slice tI)]
def vh:List CK:=[.val .str,.val .str,.val tI,.val tI,.val tI,.val .bool,.val (.slice dn),.val (.slice jq),.val (.slice dw)]
def IQ:ax:=⟨[.val (.slice tI),.val tI],[.val tI],fun x=>wW x.1 x.2.1⟩
noncomputable def QU:Cx:=⟨tpr,[],[]⟩
theorem Rc:FB 202 IQ:=fbk QU [] none (by intro x;kernel_rfl) (.nil _) Tryz.func202
def OY:List (Nat×Ann):=[(7,⟨[(2,.ref 2 0),(3,.ref 3 0),(4,.ref 4 0),(5,.ref 5 0),(6,.val tI),(31,.val tI),(32,.val tI)],[(2,xX),(3,xX),(4,qv),(5,qv)],[],aY _⟩),
 (19,⟨[(2,.ref 2 0),(3,.ref 3 0),(4,.ref 4 0),(9,.ref 9 0),(10,.val tI),(70,.val tI),(71,.val tI)],[(2,xX),(3,xX),(4,qv),(9,qv)],[],aY _⟩),
 (100003,⟨[(2,.ref 2 0),(3,.ref 3 0),(4,.ref 4 0)],[(2,xX),(3,xX),(4,qv)],[],fun _=>0⟩),
 (100012,⟨[(2,.ref 2 0),(3,.ref 3 0),(4,.ref 4 0),(5,.ref 5 0),(6,.val tI),(8,.val tI),(31,.val tI),(32,.val tI)],[(2,xX),(3,xX),(4,qv),(5,qv)],[],fun _=>0⟩),
 (200007,⟨[(4,.ref 4 0),(5,.ref 5 0)],[(4,qv),(5,qv)],[],fun _=>0⟩),
 (200019,⟨[(4,.ref 4 0),(9,.ref 9 0)],[(4,qv),(9,qv)],[],fun _=>0⟩)]
def Lr:ax:=⟨[.val bz,.val bz],[.val bz],fun x=>HF x.1 x.2.1⟩
noncomputable def S9:Cx:=⟨tpr,[(201,IT),(202,IQ),(203,yY)],[]⟩
theorem Tf:FB 171 Lr:=fbk S9 OY none (by intro x;kernel_rfl) (cz Re (cz Rc (cz Eo (.nil _)))) Tryz.func171
def Lt:ax:=⟨[.val bz],[.val tI],fun x=>HG x.1⟩
noncomputable def Ta:Cx:=⟨tpr,[],[]⟩
theorem Tg:FB 170 Lt:=fbk Ta [] none (by intro x;kernel_rfl) (.nil _) Tryz.func170
def NK:ax:=⟨[.val bz,.val bz],[.val tI],fun x=>Lc x.1 x.2.1⟩
noncomputable def Uv:Cx:=⟨tpr,[(170,Lt),(171,Lr),(172,IN)],[]⟩
theorem UB:FB 129 NK:=fbk Uv [] none (by intro x;kernel_rfl) (cz Tg (cz Tf (cz Ra (.nil _)))) Tryz.func129
def Lp:ax:=⟨[.val bg,.val bg],[.val tI],fun x=>CF x.1 x.2.1⟩
noncomputable def S8:Cx:=⟨tpr,[(129,NK),(130,Qu)],[]⟩
theorem Te:FB 81 Lp:=fbk S8 [] none (by intro x;kernel_rfl) (cz UB (cz VO (.nil _))) Tryz.func81
def xP:ax:=⟨[.val bg,.val tI,.val tI,.val tI],[.val .bool],fun x=>jk x.1 x.2.1 x.2.2.1 x.2.2.2.1⟩
noncomputable def QN:Cx:=⟨tpr,[(80,qT),(81,Lp)],[]⟩
theorem BG:FB 55 xP:=fbk QN [] none (by intro x;kernel_rfl) (cz yd (cz Te (.nil _))) Tryz.func55
def J8:List (Nat×Ann):=[(2,⟨[(1,.val .str),(8,.val (.slice dn)),(9,.val tI),(10,.val tI)],[],[],aY _⟩),
 (200002,⟨[],[],[],fun _=>0⟩)]
def yV:ax:=⟨[.val dH,.val .str],[.val tI],fun x=>fk x.1 x.2.1⟩
noncomputable def N7:Cx:=⟨tpr,[],[]⟩
theorem El:FB 82 yV:=fbk N7 J8 none (by intro x;kernel_rfl) (.nil _) Tryz.func82
def Db:List (Nat×Ann):=[(4,⟨[(2,.val .bool),(3,.ref 3 0),(12,.val (.slice dw)),(13,.val tI),(14,.val tI)],[(3,vh)],[],aY _⟩),
 (200004,⟨[],[],[],fun _=>0⟩)]
def qS:ax:=⟨[.val dH,.val (.slice dw),.val .bool],[.val tI],fun x=>iN x.1 x.2.1 x.2.2.1⟩
noncomputable def FA:Cx:=⟨tpr,[(55,xP),(80,qT),(82,yV)],[]⟩
theorem yc:FB 57 qS:=fbk FA Db none (by intro x;kernel_rfl) (cz BG (cz yd (cz El (.nil _)))) Tryz.func57
def AH:ax:=⟨[.val dH,.val tI],[.val tI],fun x=>o3 x.1 x.2.1⟩
noncomputable def Jk:Cx:=⟨tpr,[(52,AI),(54,yW),(55,xP),(57,qS),(82,yV)],[]⟩
theorem Ju:FB 56 AH:=fbk Jk [] none (by intro x;kernel_rfl) (cz FO (cz Em (cz BG (cz yc (cz El (.nil _)))))) Tryz.func56
def Cc:List (Nat×Ann):=[(12,⟨[(1,.ref 1 0),(45,.val (.slice dn)),(46,.val tI),(47,.val tI)],[(1,vh)],[],aY _⟩),
 (26,⟨[(1,.ref 1 0),(88,.val tI),(89,.val tI)],[(1,vh)],[],aY _⟩),
 (200012,⟨[(1,.ref 1 0)],[(1,vh)],[],fun _=>0⟩),
 (200026,⟨[(1,.ref 1 0)],[(1,vh)],[],fun _=>0⟩)]
def wq:ax:=⟨[.val dH],[.val tI],fun x=>gX x.1⟩
noncomputable def EK:Cx:=⟨tpr,[(52,AI),(53,IM),(54,yW),(55,xP),(56,AH),(57,qS)],[]⟩
theorem Dr:tC EK Cc none Tryz.f16 wq:=by intro x;kernel_rfl
theorem EO:cZ tpr 16 wq:=nD Dr (cz FO (cz Q9 (cz Em (cz BG (cz Ju (cz yc (.nil _))))))) qB Tryz.func16
def xT:List (Nat×Ann):=[(4,⟨[(0,.val (.slice dw)),(1,.val (.slice dw)),(12,.val tI),(13,.val tI)],[],[],aY _⟩),
 (200004,⟨[],[],[],fun _=>0⟩)]
def pX:ax:=⟨[.val (.slice dw),.val (.slice dw)],[.val .bool],fun x=>gH x.1 x.2.1⟩
noncomputable def zw:Cx:=⟨tpr,[],[]⟩
theorem zx:FB 17 pX:=fbk zw xT none (by intro x;kernel_rfl) (.nil _) Tryz.func17
def yK:List (Nat×Ann):=[(4,⟨[(0,.val (.slice dn)),(1,.val (.slice dn)),(12,.val tI),(13,.val tI)],[],[],aY _⟩),
 (200004,⟨[],[],[],fun _=>0⟩)]
def qU:ax:=⟨[.val (.slice dn),.val (.slice dn)],[.val .bool],fun x=>jT x.1 x.2.1⟩
noncomputable def Af:Cx:=⟨tpr,[],[]⟩
theorem Ak:FB 18 qU:=fbk Af yK none (by intro x;kernel_rfl) (.nil _) Tryz.func18
def NR:List (Nat×Ann):=[(4,⟨[(2,.ref 2 0),(3,.ref 3 0),(58,.val (.slice jq)),(59,.val tI),(60,.val tI)],[(2,vh),(3,vh)],[],aY _⟩),
 (200004,⟨[(2,.ref 2 0),(3,.ref 3 0)],[(2,vh),(3,vh)],[],fun _=>0⟩),
 (300010,⟨[(4,.val .bool)],[],[],fun _=>0⟩)]
def IL:ax:=⟨[.val dH,.val dH],[.val .bool],fun x=>wV x.1 x.2.1⟩
noncomputable def QM:Cx:=⟨tpr,[(17,pX),(18,qU)],[]⟩
theorem Q8:FB 7 IL:=fbk QM NR none (by intro x;kernel_rfl) (cz zx (cz Ak (.nil _))) Tryz.func7
def vO:ax:=⟨[.val ez,.val (.ptr ez)],[.val .bool],fun x=>zb x.1 x.2.1⟩
noncomputable def Di:Cx:=⟨tpr,[],[]⟩
theorem Dw:FB 132 vO:=fbk Di [] none (by intro x;kernel_rfl) (.nil _) Tryz.func132
def u9:List (Nat×Ann):=[(2,⟨[(0,.val (.slice ez)),(1,.val (.clo 132 (.ptr ez))),(7,.val tI),(8,.val tI)],[],[],aY _⟩),
 (200002,⟨[],[],[],fun _=>0⟩)]
def nP:ax:=⟨[.val (.slice ez),.val (.clo 132 (.ptr ez))],[.val tI],fun x=>pW x.1 x.2.1⟩
noncomputable def wD:Cx:=⟨tpr,[(132,vO)],[]⟩
theorem wH:FB 176 nP:=fbk wD u9 none (by intro x;kernel_rfl) (cz Dw (.nil _)) Tryz.func176
def lK:ax:=⟨[.val (.slice ez),.val (.clo 132 (.ptr ez))],[.val .bool],fun x=>nN x.1 x.2.1⟩
noncomputable def uV:Cx:=⟨tpr,[(176,nP)],[]⟩
theorem uW:FB 131 lK:=fbk uV [] none (by intro x;kernel_rfl) (cz wH (.nil _)) Tryz.func131
def qQ:ax:=⟨[.val bg],[.val tI],fun x=>l9 x.1⟩
noncomputable def Fu:Cx:=⟨tpr,[(71,fe),(72,mK)],[]⟩
theorem x9:FB 133 qQ:=fbk Fu [] none (by intro x;kernel_rfl) (cz gE (cz pS (.nil _))) Tryz.func133
def C8:List (Nat×Ann):=[(4,⟨[(0,.val (.slice ez)),(9,.val (.slice ez)),(10,.val tI),(11,.val tI)],[],[],aY _⟩),
 (200004,⟨[],[],[],fun _=>0⟩)]
def yz:ax:=⟨[.val (.slice ez)],[.val tI],fun x=>AX x.1⟩
noncomputable def Fq:Cx:=⟨tpr,[(40,lU),(41,vS),(42,iq),(131,lK),(133,qQ)],[]⟩
theorem FK:FB 83 yz:=fbk Fq C8 none (by intro x;kernel_rfl) (cz oX (cz Aj (cz jh (cz uW (cz x9 (.nil _)))))) Tryz.func83
def AU:List (Nat×Ann):=[(4,⟨[(0,.val (.slice cG)),(11,.val (.slice cG)),(12,.val tI),(13,.val tI)],[],[],aY _⟩),
 (16,⟨[(0,.val (.slice cG)),(4,.ref 4 0),(11,.val (.slice cG)),(12,.val tI),(13,.val tI),(46,.val (.slice .str)),(47,.val tI),(48,.val tI)],[(4,[.val tI,.val tI,.val tI,.val (.slice .str)])],[],aY _⟩),
 (200004,⟨[],[],[],fun _=>0⟩),
 (200016,⟨[(0,.val (.slice cG)),(11,.val (.slice cG)),(12,.val tI),(13,.val tI)],[],[],fun _=>0⟩)]
def uS:ax:=⟨[.val (.slice cG)],[.val tI],fun x=>xV x.1⟩
noncomputable def Cl:Cx:=⟨tpr,[(40,lU),(41,vS),(48,kJ),(133,qQ)],[]⟩
theorem Cu:FB 84 uS:=fbk Cl AU none (by intro x;kernel_rfl) (cz oX (cz Aj (cz kz (cz x9 (.nil _))))) Tryz.func84
def zi:ax:=⟨[.val (.slice ez),.val (.slice cG)],[.val tI],fun x=>Cf x.1 x.2.1⟩
noncomputable def H6:Cx:=⟨tpr,[(83,yz),(84,uS)],[]⟩
theorem Ie:FB 58 zi:=fbk H6 [] none (by intro x;kernel_rfl) (cz FK (cz Cu (.nil _))) Tryz.func58
def EA:ax:=⟨[.val bg],[.val tI],fun x=>De x.1⟩
noncomputable def NW:Cx:=⟨tpr,[(119,tU)],[]⟩
theorem Og:FB 85 EA:=fbk NW [] none (by intro x;kernel_rfl) (cz yO (.nil _)) Tryz.func85
def pq:ax:=⟨[.val (.slice .hnd)],[.row 111 .hnd],fun x=>so x.1⟩
noncomputable def yM:Cx:=⟨tpr,[],[]⟩
theorem yP:FB 86 pq:=fbk yM [] none (by intro x;kernel_rfl) (.nil _) Tryz.func86
def zj:ax:=⟨[.val .hnd,.arR aE],[.val tI],fun x=>wB x.1 x.2.1⟩
noncomputable def H7:Cx:=⟨tpr,[],[]⟩
theorem Ig:FB 89 zj:=fbk H7 [] none (by intro x;kernel_rfl) (.nil _) Tryz.func89
def qR:ax:=⟨[.val .hnd,.val .hnd,.arR aE],[.val tI],fun x=>mc x.1 x.2.1 x.2.2.1⟩
noncomputable def Fv:Cx:=⟨tpr,[(89,zj)],[]⟩
theorem ya:FB 88 qR:=fbk Fv [] none (by intro x;kernel_rfl) (cz Ig (.nil _)) Tryz.func88
def nc:List (Nat×Ann):=[(1,⟨[(0,.rowR 10250000),(1,.val tI),(2,.val tI),(3,.val (.clo 88 .unit)),(8,.val tI)],[],[.rowC 10250000 111 .hnd,.arF aE],aY _⟩),
 (4,⟨[(0,.rowR 10250000),(1,.val tI),(2,.val tI),(3,.val (.clo 88 .unit)),(8,.val tI),(9,.val tI)],[],[.rowC 10250000 111 .hnd,.arF aE],aY _⟩),
 (200001,⟨[],[],[.rowC 10250000 111 .hnd,.arF aE],fun _=>0⟩),
 (200004,⟨[(0,.rowR 10250000),(1,.val tI),(2,.val tI),(3,.val (.clo 88 .unit)),(8,.val tI)],[],[.rowC 10250000 111 .hnd,.arF aE],fun _=>0⟩)]
def iA:ax:=⟨[.mrow 111 .hnd,.val tI,.val tI,.val (.clo 88 .unit),.arR aE],[],fun x=>fh x.1 x.2.1 x.2.2.1 x.2.2.2.1 x.2.2.2.2.1⟩
noncomputable def nU:Cx:=⟨tpr,[(88,qR)],[]⟩
theorem nV:FB 177 iA:=fbk nU nc none (by intro x;kernel_rfl) (cz ya (.nil _)) Tryz.func177
def oU:List (Nat×Ann):=[(1,⟨[(0,.rowR 10250000),(1,.val tI),(2,.val tI),(3,.val tI),(10,.val tI)],[],[.rowC 10250000 111 .hnd,.arF aE],aY _⟩),
 (200001,⟨[],[],[.rowC 10250000 111 .hnd,.arF aE],fun _=>0⟩)]
def ju:ax:=⟨[.mrow 111 .hnd,.val tI,.val tI,.val tI,.val (.clo 88 .unit),.arR aE],[],fun x=>eo x.1 x.2.1 x.2.2.1 x.2.2.2.1 x.2.2.2.2.1 x.2.2.2.2.2.1⟩
noncomputable def pZ:Cx:=⟨tpr,[],[]⟩
theorem qb:FB 213 ju:=fbk pZ oU none (by intro x;kernel_rfl) (.nil _) Tryz.func213
def qj:List (Nat×Ann):=[(2,⟨[(0,.rowR 10250000),(2,.val tI),(4,.val (.clo 88 .unit)),(10,.val tI),(11,.val tI)],[],[.rowC 10250000 111 .hnd,.arF aE],aY _⟩),
 (200002,⟨[(0,.rowR 10250000),(2,.val tI),(4,.val (.clo 88 .unit)),(10,.val tI)],[],[.rowC 10250000 111 .hnd,.arF aE],fun _=>0⟩)]
def kg:ax:=⟨[.mrow 111 .hnd,.val tI,.val tI,.val tI,.val (.clo 88 .unit),.arR aE],[],fun x=>lI x.1 x.2.1 x.2.2.1 x.2.2.2.1 x.2.2.2.2.1 x.2.2.2.2.2.1⟩
noncomputable def sD:Cx:=⟨tpr,[(213,ju)],[]⟩
theorem sG:FB 204 kg:=fbk sD qj none (by intro x;kernel_rfl) (cz qb (.nil _)) Tryz.func204
def jb:List (Nat×Ann):=[(3,⟨[(0,.rowR 10250000),(1,.val tI),(4,.val (.clo 88 .unit)),(10,.val tI),(11,.val tI)],[],[.rowC 10250000 111 .hnd,.arF aE],aY _⟩),
 (9,⟨[(0,.rowR 10250000),(10,.val tI),(13,.val tI)],[],[.rowC 10250000 111 .hnd,.arF aE],aY _⟩),
 (15,⟨[(0,.rowR 10250000),(2,.val tI),(4,.val (.clo 88 .unit)),(14,.val tI),(15,.val tI)],[],[.rowC 10250000 111 .hnd,.arF aE],aY _⟩),
 (21,⟨[(0,.rowR 10250000),(14,.val tI),(17,.val tI)],[],[.rowC 10250000 111 .hnd,.arF aE],aY _⟩),
 (33,⟨[(0,.rowR 10250000),(1,.val tI),(2,.val tI),(3,.val tI),(4,.val (.clo 88 .unit)),(18,.val tI),(19,.val tI),(20,.val tI),(21,.val tI),(22,.val tI)],[],[.rowC 10250000 111 .hnd,.arF aE],aY _⟩),
 (100030,⟨[(0,.rowR 10250000),(1,.val tI),(2,.val tI),(3,.val tI),(4,.val (.clo 88 .unit)),(18,.val tI),(19,.val tI),(20,.val tI),(21,.val tI)],[],[.rowC 10250000 111 .hnd,.arF aE],fun _=>0⟩),
 (100040,⟨[(0,.rowR 10250000),(1,.val tI),(3,.val tI),(4,.val (.clo 88 .unit)),(18,.val tI),(20,.val tI),(24,.val tI)],[],[.rowC 10250000 111 .hnd,.arF aE],fun _=>0⟩),
 (100042,⟨[(0,.rowR 10250000),(3,.val tI),(4,.val (.clo 88 .unit)),(18,.val tI),(24,.val tI)],[],[.rowC 10250000 111 .hnd,.arF aE],fun _=>0⟩),
 (200003,⟨[(0,.rowR 10250000),(1,.val tI),(10,.val tI)],[],[.rowC 10250000 111 .hnd,.arF aE],fun _=>0⟩),
 (200009,⟨[],[],[.rowC 10250000 111 .hnd,.arF aE],fun _=>0⟩),
 (200015,⟨[(0,.rowR 10250000),(2,.val tI),(14,.val tI)],[],[.rowC 10250000 111 .hnd,.arF aE],fun _=>0⟩),
 (200021,⟨[],[],[.rowC 10250000 111 .hnd,.arF aE],fun _=>0⟩),
 (200033,⟨[(0,.rowR 10250000),(1,.val tI),(2,.val tI),(3,.val tI),(4,.val (.clo 88 .unit)),(18,.val tI),(19,.val tI),(20,.val tI)],[],[.rowC 10250000 111 .hnd,.arF aE],fun _=>0⟩)]
def bE:List PM:=[.mrow 111 .hnd,.val tI,.val tI,.val tI,.val (.clo 88 .unit),.arR aE]
def cq:List RM:=[]
noncomputable def jt:List (Nat×ax):=[(88,qR),(204,kg)]
def jM:ax:=⟨bE,cq,fun x=>gL x.1 x.2.1 x.2.2.1 x.2.2.2.1 x.2.2.2.2.1 x.2.2.2.2.2.1⟩
theorem qa:∀ (self:dS bE->Option (cF bE cq)) (x:dS bE),BE ⟨tpr,(178,⟨bE,cq,self⟩)::jt,[]⟩ jb none Tryz.f178 ⟨bE,cq,fun x=>di self x.1 x.2.1 x.2.2.1 x.2.2.2.1 x.2.2.2.2.1 x.2.2.2.2.2.1⟩ x=di self x.1 x.2.1 x.2.2.1 x.2.2.2.1 x.2.2.2.2.1 x.2.2.2.2.2.1:=by intro self x;kernel_rfl
theorem jE:eY tpr 178:=kX Tryz.func178 rfl (by decide)
theorem qD:cZ tpr 178 jM:=Rh (ps:=bE) (rs:=cq) (m:=fun n x=>GF (fun self x=>di self x.1 x.2.1 x.2.2.1 x.2.2.2.1 x.2.2.2.2.1 x.2.2.2.2.2.1) n x) (KL (P:=Tryz.prog) (specs:=jt) (ps:=bE) (rs:=cq) (cz ya (cz sG (.nil _))) (by kernel_rfl) (fun self x=>di self x.1 x.2.1 x.2.2.1 x.2.2.2.1 x.2.2.2.2.1 x.2.2.2.2.2.1) jb none (by kernel_rfl) jE qa) (fun x=>jg x.1 x.2.1 x.2.2.1 x.2.2.2.1 x.2.2.2.2.1 x.2.2.2.2.2.1)
def qk:List (Nat×Ann):=[(2,⟨[(0,.rowR 10250000),(1,.val tI),(2,.val (.clo 88 .unit)),(6,.val tI),(7,.val tI),(8,.val tI)],[],[.rowC 10250000 111 .hnd,.arF aE],aY _⟩),
 (7,⟨[(0,.rowR 10250000),(1,.val tI),(2,.val (.clo 88 .unit)),(6,.val tI)],[],[.rowC 10250000 111 .hnd,.arF aE],aY _⟩),
 (9,⟨[(0,.rowR 10250000),(1,.val tI),(2,.val (.clo 88 .unit)),(6,.val tI),(7,.val tI),(8,.val tI)],[],[.rowC 10250000 111 .hnd,.arF aE],aY _⟩),
 (200002,⟨[(0,.rowR 10250000),(1,.val tI),(2,.val (.clo 88 .unit)),(6,.val tI),(7,.val tI)],[],[.rowC 10250000 111 .hnd,.arF aE],fun _=>0⟩),
 (200007,⟨[],[],[.rowC 10250000 111 .hnd,.arF aE],fun _=>0⟩),
 (200009,⟨[(0,.rowR 10250000),(1,.val tI),(2,.val (.clo 88 .unit)),(6,.val tI),(7,.val tI)],[],[.rowC 10250000 111 .hnd,.arF aE],fun _=>0⟩)]
def ki:ax:=⟨[.mrow 111 .hnd,.val tI,.val (.clo 88 .unit),.arR aE],[],fun x=>lJ x.1 x.2.1 x.2.2.1 x.2.2.2.1⟩
noncomputable def sE:Cx:=⟨tpr,[(177,iA),(178,jM)],[]⟩
theorem sH:FB 134 ki:=fbk sE qk none (by intro x;kernel_rfl) (cz nV (.cons qD jE (.nil _))) Tryz.func134
def jV:ax:=⟨[.mrow 111 .hnd,.val (.clo 88 .unit),.arR aE],[],fun x=>lA x.1 x.2.1 x.2.2.1⟩
noncomputable def rJ:Cx:=⟨tpr,[(134,ki)],[]⟩
theorem rK:FB 87 jV:=fbk rJ [] none (by intro x;kernel_rfl) (cz sH (.nil _)) Tryz.func87
end Go.Proofs.SeatU
end
