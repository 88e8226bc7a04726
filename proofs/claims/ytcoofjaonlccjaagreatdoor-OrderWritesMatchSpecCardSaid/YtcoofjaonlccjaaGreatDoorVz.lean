/-
  Each function that the law reaches is as its plain model says, third part. No condition.
-/
import Derived.Test.YtcoofjaonlccjaaGreatDoorVy
import Derived.Test.YtcoofjaonlccjaaGreatDoorVx
import Derived.Test.YtcoofjaonlccjaaGreatDoorVd
set_option linter.all false
set_option maxRecDepth 100000
namespace Go.Proofs.SeatA
open Go.Dn Go.Md Go.Proofs Go.RowKit Go.Shelf Go.Lib
def Sp:Ren:=⟨fun | 22=>140 | 29=>177 | 30=>178 | n=>n,fun | 24=>92 | 9=>140 | n=>n,fun n=>n⟩
theorem Ze:yx Tryz.prog Sp 19 184 (.agg #[.int .i64 0,.string ⟨#[]⟩,.string ⟨#[]⟩,.int .i64 0,.int .i64 0,.int .i64 0,.int .i64 0,.int .i64 0,.int .i64 0,.int .i64 0,.int .i64 0,.int .i64 0,.int .i64 0,.int .i64 0,.int .i64 0,.int .i64 0,.int .i64 0,.int .i64 0,.slice none 0 0]):={
 mixed:=by kernel_rfl
 f22:=⟨_,by decide,Tryz.func140.trans (congrArg some (by kernel_rfl:Tryz.f140={ Body2.n22 Sp with name:= "slices.Insert[[]interchange/interchangeref9.line,interchange/interchangeref9.line]" }))⟩
 f29:=⟨Tryz.f177,by kernel_rfl,by kernel_rfl,by kernel_rfl,by kernel_rfl,by kernel_rfl⟩
 t0:=Tryz.u7.t0
 a0:=Tryz.u7.a0
 z0:=Tryz.u7.z0
 v0:=Tryz.u7.v0
 t3:=Tryz.u7.t3
 a3:=Tryz.u7.a3
 z3:=Tryz.u7.z3
 v3:=Tryz.u7.v3
 t4:=Tryz.u7.t4
 a4:=Tryz.u7.a4
 z4:=Tryz.u7.z4
 v4:=Tryz.u7.v4
 z9:=Tryz.sizeOf140
 t24:=Tryz.underlying92
 a24:=Tryz.isAgg92
 z24:=Tryz.sizeOf92
 v24:=Tryz.zeroValue92
 i9:=by kernel_rfl
 k0:=by decide
 zc:=rfl }
def jd:az:=⟨[.row 140 aU,.val tI,.row 140 aU],[.row 140 aU],fun x=>fL x.1 x.2.1 x.2.2.1⟩
theorem rC:aq Tryz.prog 140:=an (fn:=Tryz.f140) (by kernel_rfl) rfl (by decide)
theorem rD:aF Tryz.prog 140 jd:=U2 (t:=aU) Ze
end Go.Proofs.SeatA
set_option maxRecDepth 100000
namespace Go.Proofs.SeatA
open Go.Dn Go.Md Go.Proofs
def Nc:List CK:=[.val .str,.val .str,.val .str,.val tI,.val tI,.val (.slice gx),.val (.slice av),.own 140 aU,.own 44 au]
def VS:List CK:=[.val .str,.val .str,.val .str,.val tI,.val tI,.val (.slice gx),.val (.slice av),.rowR 10250003,.rowR 10250004]
def RQ:List CK:=[.val .str,.val .str,.val .str,.val tI,.val tI,.val (.slice gx),.val (.slice av),.rowR 4000,.rowR 10250004]
def VT:List CK:=[.val tI,.val .str,.val .str,.val tI,.val tI,.val tI,.val tI,.val tI,.val tI,.val tI,.val tI,.val tI,.val tI,.val tI,.val tI,.val tI,.val tI,.val tI,.val (.slice cG)]
def VU:List CK:=[.val tI,.val .str,.val .str,.val tI,.val tI,.val tI,.val tI,.val tI,.val tI,.val tI,.val tI,.val tI,.val tI,.val tI,.val tI,.val tI]
def Cb:List CK:=[.val tI,.val tI,.val tI,.val tI,.val tI,.val .str,.val tI,.val tI,.val .str,.val tI,.val tI,.val tI,.val tI]
def Lo:List (Nat×Ann):=[]
noncomputable def wq:az:=⟨[.val bu,.val (.slice av)],[.val tI],fun x=>Km x.1 x.2.1⟩
noncomputable def PY:Cx:=⟨Tryz.prog,[(12,lS),(14,iZ)],[]⟩
theorem UN:∀ x,aO PY Lo none Tryz.f53 wq x=wq.m x:=by intro x;kernel_rfl
theorem P9:aq Tryz.prog 53:=an (fn:=Tryz.f53) (by kernel_rfl) rfl (by decide)
theorem Ql:aF Tryz.prog 53 wq:=aA (X:=PY) (.cons MH MA (.cons CN Cw (.nil _))) (by kernel_rfl) wq Lo none (by kernel_rfl) (fun x y h=>(UN x).trans h)
def x5:List (Nat×Ann):=[(2,⟨[(1,.val tI),(10,.val (.slice aU)),(11,.val tI),(12,.val tI)],[],[],bq _⟩),
 (200002,⟨[],[],[],fun _=>0⟩)]
noncomputable def iH:az:=⟨[.val (.ptr gu),.val tI],[.val tI],fun x=>oG x.1 x.2.1⟩
noncomputable def A9:Cx:=⟨Tryz.prog,[],[]⟩
theorem Jk:∀ x,aO A9 x5 none Tryz.f136 iH x=iH.m x:=by intro x;kernel_rfl
theorem Be:aq Tryz.prog 136:=an (fn:=Tryz.f136) (by kernel_rfl) rfl (by decide)
theorem Bg:aF Tryz.prog 136 iH:=aA (X:=A9) (.nil _) (by kernel_rfl) iH x5 none (by kernel_rfl) (fun x y h=>(Jk x).trans h)
def A2:List (Nat×Ann):=[]
noncomputable def nt:az:=⟨[.val (.ptr gu),.val nN],[.val tI],fun x=>xF x.1 x.2.1⟩
noncomputable def DL:Cx:=⟨Tryz.prog,[(137,nL)],[]⟩
theorem Mn:∀ x,aO DL A2 none Tryz.f138 nt x=nt.m x:=by intro x;kernel_rfl
theorem NK:aq Tryz.prog 138:=an (fn:=Tryz.f138) (by kernel_rfl) rfl (by decide)
theorem N2:aF Tryz.prog 138 nt:=aA (X:=DL) (.cons EJ Ev (.nil _)) (by kernel_rfl) nt A2 none (by kernel_rfl) (fun x y h=>(Mn x).trans h)
def wL:List (Nat×Ann):=[(100017,⟨[(0,.val (.ptr gu)),(5,.ref 5 0),(7,.ref 7 0),(8,.ref 8 0),(64,.val tI),(65,.val .bool)],[(5,Cb),(7,VT),(8,VU)],[],fun _=>0⟩),
 (100022,⟨[(0,.val (.ptr gu)),(5,.ref 5 0),(7,.ref 7 0),(8,.ref 8 0),(64,.val tI),(72,.val .bool)],[(5,Cb),(7,VT),(8,VU)],[],fun _=>0⟩),
 (300007,⟨[(37,.val .bool)],[],[],fun _=>0⟩),
 (300009,⟨[(51,.val .bool)],[],[],fun _=>0⟩),
 (300025,⟨[(121,.val .bool)],[],[],fun _=>0⟩)]
noncomputable def jA:az:=⟨[.val (.ptr gu),.val tI],[.val tI],fun x=>ri x.1 x.2.1⟩
noncomputable def zV:Cx:=⟨Tryz.prog,[(59,sK),(80,oN),(94,pR),(136,iH),(137,nL),(138,nt),(139,pS)],[]⟩
theorem Iz:∀ x,aO zV wL none Tryz.f86 jA x=jA.m x:=by intro x;kernel_rfl
theorem JC:aq Tryz.prog 86:=an (fn:=Tryz.f86) (by kernel_rfl) rfl (by decide)
theorem J2:aF Tryz.prog 86 jA:=aA (X:=zV) (.cons J3 JD (.cons J5 JF (.cons He GM (.cons Bg Be (.cons EJ Ev (.cons N2 NK (.cons Hf GN (.nil _)))))))) (by kernel_rfl) jA wL none (by kernel_rfl) (fun x y h=>(Iz x).trans h)
noncomputable def wR:Cx:=⟨Tryz.prog,[(85,jy)],[]⟩
noncomputable def tX:Code:=(Tryz.f141.body).getD .skip
theorem FD:∀ (e:TypeId) (vs:List Value) (l:(List aa)) (ql:(List ak)) (i:Nat),den wR [] tX (List CV×TypeId×(List ak)) (GD Tryz.f141.ntmps 6 9 e av aU vs l ql i) (V3 aU)=iR l ql i (fun q=>some (ko 6 9 av l vs,e,q)):=by intro e vs l ql i;kernel_rfl
def Uc:BX:= .elt 6 9 av aU fK
theorem Yb:aq Tryz.prog 141:=an (fn:=Tryz.f141) (by kernel_rfl) rfl (by decide)
theorem Yc:Rm Tryz.prog 141 Uc:=YG (X:=wR) (.cons xe wY (.nil _)) (by kernel_rfl) (fn:=Tryz.f141) (c:=tX) 6 9 av aU fK [] (by kernel_rfl) (by kernel_rfl) (by kernel_rfl) (by decide) (fun e vs l ql i=>(FD e vs l ql i).trans (EU l ql i _))
def oU:List (Nat×Ann):=[]
noncomputable def eL:az:=⟨[.val (.slice cG)],[.row 137 cG],fun x=>gd x.1⟩
noncomputable def qW:Cx:=⟨Tryz.prog,[],[]⟩
theorem AK:∀ x,aO qW oU none Tryz.f142 eL x=eL.m x:=by intro x;kernel_rfl
theorem Bu:aq Tryz.prog 142:=an (fn:=Tryz.f142) (by kernel_rfl) rfl (by decide)
theorem BA:aF Tryz.prog 142 eL:=aA (X:=qW) (.nil _) (by kernel_rfl) eL oU none (by kernel_rfl) (fun x y h=>(AK x).trans h)
def xZ:List (Nat×Ann):=[(4,⟨[(0,.ref 2000 0),(1,.val tI),(4,.ref 4 0),(5,.val tI)],[(4,Cb),(2000,VS)],[.rowC 10250003 140 aU,.rowC 10250004 44 au],bq _⟩),
 (100003,⟨[(0,.ref 2000 0),(1,.val tI),(4,.ref 4 0),(5,.val tI)],[(4,Cb),(2000,[.val .str,.val .str,.val .str,.val tI,.val tI,.val (.slice gx),.val (.slice av),.own 140 aU,.rowR 10250004])],[.rowC 10250004 44 au],fun _=>0⟩),
 (100010,⟨[(0,.ref 2000 0),(1,.val tI),(4,.ref 4 0),(7,.rpR 4000 19)],[(4,Cb),(2000,RQ)],[.rowC 4000 140 aU,.rowC 10250004 44 au],fun _=>0⟩),
 (100013,⟨[(0,.ref 2000 0),(1,.val tI),(4,.ref 4 0),(7,.rpR 4000 19),(82,.val tI),(83,.val .bool)],[(4,Cb),(2000,RQ)],[.rowC 4000 140 aU,.rowC 10250004 44 au],fun _=>0⟩),
 (100016,⟨[(1,.val tI),(7,.rpR 4000 19)],[(2000,RQ)],[.rowC 4000 140 aU,.rowC 10250004 44 au],fun _=>0⟩),
 (200004,⟨[(0,.ref 2000 0),(1,.val tI),(4,.ref 4 0),(5,.val tI)],[(4,Cb),(2000,VS)],[.rowC 10250003 140 aU,.rowC 10250004 44 au],fun _=>0⟩),
 (300004,⟨[(41,.val .bool)],[],[],fun _=>0⟩)]
noncomputable def kK:az:=⟨[.box [.val bu,.val (.slice av),.row 140 aU,.row 44 au],.val tI],[],fun x=>iX x.1 x.2.1⟩
noncomputable def A8:Cx:=⟨Tryz.prog,[(58,lB),(85,jy),(94,pR),(136,iH),(139,pS),(140,jd),(142,eL)],[(141,Uc),(100065,.own)]⟩
theorem Jj:∀ x,aO A8 xZ none Tryz.f87 kK x=kK.m x:=by intro x;kernel_rfl
theorem Lb:aq Tryz.prog 87:=an (fn:=Tryz.f87) (by kernel_rfl) rfl (by decide)
theorem Lh:aF Tryz.prog 87 kK:=aA (X:=A8) (.Y0 Yc Yb (.Y1 (.cons FY FP (.cons xe wY (.cons He GM (.cons Bg Be (.cons Hf GN (.cons rD rC (.cons BA Bu (.nil _)))))))))) (by kernel_rfl) kK xZ none (by kernel_rfl) (fun x y h=>(Jj x).trans h)
def Lr:List (Nat×Ann):=[(3,⟨[(1,.val (.slice av)),(2,.val tI),(7,.ref 17 0),(19,.val (.slice gx)),(20,.val tI),(21,.val tI)],[(17,Nc)],[],bq _⟩),
 (9,⟨[(2,.val tI),(7,.ref 17 0),(53,.val (.slice av)),(54,.val tI),(55,.val tI)],[(17,Nc)],[],bq _⟩),
 (200003,⟨[(1,.val (.slice av)),(2,.val tI),(7,.ref 17 0)],[(17,Nc)],[],fun _=>0⟩),
 (200009,⟨[(7,.ref 17 0)],[(17,Nc)],[],fun _=>0⟩)]
noncomputable def wu:az:=⟨[.val bu,.val (.slice av),.val tI],[.box [.val bu,.val (.slice av),.row 140 aU,.row 44 au]],fun x=>Ko x.1 x.2.1 x.2.2.1⟩
noncomputable def P3:Cx:=⟨Tryz.prog,[(58,lB),(85,jy),(86,jA),(87,kK)],[]⟩
theorem UP:∀ x,aO P3 Lr none Tryz.f54 wu x=wu.m x:=by intro x;kernel_rfl
theorem Qa:aq Tryz.prog 54:=an (fn:=Tryz.f54) (by kernel_rfl) rfl (by decide)
theorem Qm:aF Tryz.prog 54 wu:=aA (X:=P3) (.cons FY FP (.cons xe wY (.cons J2 JC (.cons Lh Lb (.nil _))))) (by kernel_rfl) wu Lr none (by kernel_rfl) (fun x y h=>(UP x).trans h)
def HQ:List (Nat×Ann):=[(12,⟨[(1,.val (.slice av)),(9,.val (.slice av)),(43,.rowR 93460),(44,.val tI),(45,.val tI)],[],[.rowC 93460 44 au],bq _⟩),
 (200012,⟨[(9,.val (.slice av))],[],[],fun _=>0⟩)]
noncomputable def uT:az:=⟨[.val bu,.val (.slice av),.val av],[.val (.slice av),.val tI],fun x=>Hv x.1 x.2.1 x.2.2.1⟩
noncomputable def LF:Cx:=⟨Tryz.prog,[(14,iZ),(33,dP),(47,oM),(53,wq),(54,wu)],[]⟩
theorem R3:∀ x,aO LF HQ none Tryz.f18 uT x=uT.m x:=by intro x;kernel_rfl
theorem Tw:aq Tryz.prog 18:=an (fn:=Tryz.f18) (by kernel_rfl) rfl (by decide)
theorem TK:aF Tryz.prog 18 uT:=aA (X:=LF) (.cons CN Cw (.cons rZ rS (.cons J4 JE (.cons Ql P9 (.cons Qm Qa (.nil _)))))) (by kernel_rfl) uT HQ none (by kernel_rfl) (fun x y h=>(R3 x).trans h)
def wD:List (Nat×Ann):=[]
noncomputable def jr:az:=⟨[.val bu,.val (.slice av)],[.row 44 au,.val tI],fun x=>jM x.1 x.2.1⟩
noncomputable def zN:Cx:=⟨Tryz.prog,[(55,qu),(55,uN)],[]⟩
theorem Ir:∀ x,aO zN wD (some bH) Tryz.f19 jr x=jr.m x:=by intro x;kernel_rfl
theorem Jv:aq Tryz.prog 19:=an (fn:=Tryz.f19) (by kernel_rfl) rfl (by decide)
theorem JV:aF Tryz.prog 19 jr:=aA (X:=zN) (.cons Q6 QY (.cons TE Tp (.nil _))) (by kernel_rfl) jr wD (some bH) (by kernel_rfl) (fun x y h=>(Ir x).trans h)
def A1:List (Nat×Ann):=[]
noncomputable def nr:az:=⟨[.val bu,.val (.slice av)],[.row 44 au,.val tI],fun x=>xC x.1 x.2.1⟩
noncomputable def DK:Cx:=⟨Tryz.prog,[(53,wq),(54,wu)],[]⟩
theorem Mm:∀ x,aO DK A1 none Tryz.f20 nr x=nr.m x:=by intro x;kernel_rfl
theorem NJ:aq Tryz.prog 20:=an (fn:=Tryz.f20) (by kernel_rfl) rfl (by decide)
theorem N1:aF Tryz.prog 20 nr:=aA (X:=DK) (.cons Ql P9 (.cons Qm Qa (.nil _))) (by kernel_rfl) nr A1 none (by kernel_rfl) (fun x y h=>(Mm x).trans h)
def nP:List (Nat×Ann):=[(4,⟨[(0,.val (.slice au)),(1,.val (.slice au)),(12,.val tI),(13,.val tI)],[],[],bq _⟩),
 (200004,⟨[],[],[],fun _=>0⟩)]
noncomputable def dV:az:=⟨[.val (.slice au),.val (.slice au)],[.val .bool],fun x=>fk x.1 x.2.1⟩
noncomputable def oW:Cx:=⟨Tryz.prog,[],[]⟩
theorem yD:∀ x,aO oW nP none Tryz.f21 dV x=dV.m x:=by intro x;kernel_rfl
theorem Ac:aq Tryz.prog 21:=an (fn:=Tryz.f21) (by kernel_rfl) rfl (by decide)
theorem Am:aF Tryz.prog 21 dV:=aA (X:=oW) (.nil _) (by kernel_rfl) dV nP none (by kernel_rfl) (fun x y h=>(yD x).trans h)
def oa:List (Nat×Ann):=[(300007,⟨[(6,.val .bool)],[],[],fun _=>0⟩)]
noncomputable def gv:az:=⟨[.val bu,.val (.slice av),.val av],[.val .bool],fun x=>iM x.1 x.2.1 x.2.2.1⟩
noncomputable def p9:Cx:=⟨Tryz.prog,[(15,fo),(16,uM),(17,oJ),(18,uT),(19,jr),(20,nr),(21,dV)],[]⟩
theorem zY:∀ x,aO p9 oa none Tryz.f4 gv x=gv.m x:=by intro x;kernel_rfl
theorem AP:aF Tryz.prog 4 gv:=aA (X:=p9) (.cons CP Cz (.cons TD To (.cons Pf O0 (.cons TK Tw (.cons JV Jv (.cons N1 NJ (.cons Am Ac (.nil _)))))))) (by kernel_rfl) gv oa none (by kernel_rfl) (fun x y h=>(zY x).trans h)
end Go.Proofs.SeatA
