/-
  Each function that the law reaches is as its plain model says, second part. No condition.
-/
import Derived.Test.YtcoofjaonlccjaaGreatDoorVw
set_option linter.all false
set_option maxRecDepth 100000
namespace Go.Proofs.SeatA
open Go.Dn Go.Md Go.Proofs
def Fi:List CK:=[.val (.slice .str),.val .bool]
def Nb:List CK:=[.val .bool,.own 163 (.int .u32)]
def dX:List CK:=[.val .bool,.own 3 tI]
def Fj:List CK:=[.val .bool,.rowR 24]
def tW:List CK:=[.val .bool,.val (.slice (.int .u32))]
def lC:List CK:=[.val .bool,.val (.slice tI)]
def IZ:List CK:=[.val .bool,.val .bool,.val .bool,.val .bool,.val .bool,.val .bool]
def p8:List CK:=[.val tI,.val tI,.val tI,.val tI,.val tI,.val .str,.val tI,.val tI,.val .str,.val tI,.val tI,.val tI,.val tI]
def Fk:List CK:=[.val tI,.val tI]
def jI:List (Nat×Ann):=[]
noncomputable def cV:az:=⟨[.val .str,.val .str],[.val .bool],fun x=>mR x.1 x.2.1⟩
noncomputable def kY:Cx:=⟨Tryz.prog,[],[]⟩
theorem tL:∀ x,aO kY jI none Tryz.f196 cV x=cV.m x:=by intro x;kernel_rfl
theorem uv:aq Tryz.prog 196:=an (fn:=Tryz.f196) (by kernel_rfl) rfl (by decide)
theorem uD:aF Tryz.prog 196 cV:=aA (X:=kY) (.nil _) (by kernel_rfl) cV jI none (by kernel_rfl) (fun x y h=>(tL x).trans h)
def jG:List (Nat×Ann):=[]
noncomputable def cT:az:=⟨[.val .str,.val .str],[.val .str,.val .bool],fun x=>mP x.1 x.2.1⟩
noncomputable def kW:Cx:=⟨Tryz.prog,[(196,cV)],[]⟩
theorem tJ:∀ x,aO kW jG none Tryz.f172 cT x=cT.m x:=by intro x;kernel_rfl
theorem uo:aq Tryz.prog 172:=an (fn:=Tryz.f172) (by kernel_rfl) rfl (by decide)
theorem uB:aF Tryz.prog 172 cT:=aA (X:=kW) (.cons uD uv (.nil _)) (by kernel_rfl) cT jG none (by kernel_rfl) (fun x y h=>(tJ x).trans h)
def tV:List (Nat×Ann):=[]
noncomputable def iF:az:=⟨[.val .str,.val .str],[.val .str,.val .bool],fun x=>Bj x.1 x.2.1⟩
noncomputable def wT:Cx:=⟨Tryz.prog,[(172,cT)],[]⟩
theorem FF:∀ x,aO wT tV none Tryz.f121 iF x=iF.m x:=by intro x;kernel_rfl
theorem GP:aq Tryz.prog 121:=an (fn:=Tryz.f121) (by kernel_rfl) rfl (by decide)
theorem Hh:aF Tryz.prog 121 iF:=aA (X:=wT) (.cons uB uo (.nil _)) (by kernel_rfl) iF tV none (by kernel_rfl) (fun x y h=>(FF x).trans h)
def E2:List (Nat×Ann):=[]
noncomputable def sH:az:=⟨[.val .str],[.val (.slice .str),.val .bool],fun x=>Qg x.1⟩
noncomputable def I5:Cx:=⟨Tryz.prog,[(121,iF),(122,vH)],[]⟩
theorem QJ:∀ x,aO I5 E2 none Tryz.f81 sH x=sH.m x:=by intro x;kernel_rfl
theorem Sh:aq Tryz.prog 81:=an (fn:=Tryz.f81) (by kernel_rfl) rfl (by decide)
theorem SC:aF Tryz.prog 81 sH:=aA (X:=I5) (.cons Hh GP (.cons CQ CA (.nil _))) (by kernel_rfl) sH E2 none (by kernel_rfl) (fun x y h=>(QJ x).trans h)
def E3:List (Nat×Ann):=[(3,⟨[(4,.rowR 27920),(9,.rowR 27920),(10,.val tI),(11,.val tI)],[],[.rowC 27920 9 .str],bq _⟩),
 (200003,⟨[(4,.rowR 27920)],[],[.rowC 27920 9 .str],fun _=>0⟩)]
noncomputable def sI:az:=⟨[.val .str],[.val (.slice .str),.val .bool],fun x=>Qh x.1⟩
noncomputable def I6:Cx:=⟨Tryz.prog,[(122,vH)],[]⟩
theorem QK:∀ x,aO I6 E3 none Tryz.f123 sI x=sI.m x:=by intro x;kernel_rfl
theorem Si:aq Tryz.prog 123:=an (fn:=Tryz.f123) (by kernel_rfl) rfl (by decide)
theorem SD:aF Tryz.prog 123 sI:=aA (X:=I6) (.cons CQ CA (.nil _)) (by kernel_rfl) sI E3 none (by kernel_rfl) (fun x y h=>(QK x).trans h)
def vR:List (Nat×Ann):=[]
noncomputable def dL:az:=⟨[.box [.val (.slice .str),.val .bool]],[.val .str],fun x=>iW x.1⟩
noncomputable def yd:Cx:=⟨Tryz.prog,[],[]⟩
theorem Gv:∀ x,aO yd vR none Tryz.f128 dL x=dL.m x:=by intro x;kernel_rfl
theorem l6:aq Tryz.prog 128:=an (fn:=Tryz.f128) (by kernel_rfl) rfl (by decide)
theorem l8:aF Tryz.prog 128 dL:=aA (X:=yd) (.nil _) (by kernel_rfl) dL vR none (by kernel_rfl) (fun x y h=>(Gv x).trans h)
def tF:List (Nat×Ann):=[]
noncomputable def gR:az:=⟨[.box [.val (.slice .str),.val .bool]],[.val tI],fun x=>gK x.1⟩
noncomputable def vZ:Cx:=⟨Tryz.prog,[(128,dL),(174,Io)],[]⟩
theorem El:∀ x,aO vZ tF none Tryz.f124 gR x=gR.m x:=by intro x;kernel_rfl
theorem FO:aq Tryz.prog 124:=an (fn:=Tryz.f124) (by kernel_rfl) rfl (by decide)
theorem FX:aF Tryz.prog 124 gR:=aA (X:=vZ) (.cons l8 l6 (.cons Q4 QW (.nil _))) (by kernel_rfl) gR tF none (by kernel_rfl) (fun x y h=>(El x).trans h)
def zD:List (Nat×Ann):=[]
noncomputable def lQ:az:=⟨[],[.val (.slice .str)],fun x=>Ik ⟩
noncomputable def Cd:Cx:=⟨Tryz.prog,[],[]⟩
theorem K1:∀ x,aO Cd zD none Tryz.f126 lQ x=lQ.m x:=by intro x;kernel_rfl
theorem Mz:aq Tryz.prog 126:=an (fn:=Tryz.f126) (by kernel_rfl) rfl (by decide)
theorem MG:aF Tryz.prog 126 lQ:=aA (X:=Cd) (.nil _) (by kernel_rfl) lQ zD none (by kernel_rfl) (fun x y h=>(K1 x).trans h)
def rM:List (Nat×Ann):=[(2,⟨[(0,.val (.slice .str)),(1,.val .str),(7,.val tI),(8,.val tI)],[],[],bq _⟩),
 (200002,⟨[],[],[],fun _=>0⟩)]
noncomputable def gq:az:=⟨[.val (.slice .str),.val .str],[.val tI],fun x=>yu x.1 x.2.1⟩
noncomputable def uj:Cx:=⟨Tryz.prog,[],[]⟩
theorem Dt:∀ x,aO uj rM none Tryz.f175 gq x=gq.m x:=by intro x;kernel_rfl
theorem Ew:aq Tryz.prog 175:=an (fn:=Tryz.f175) (by kernel_rfl) rfl (by decide)
theorem EK:aF Tryz.prog 175 gq:=aA (X:=uj) (.nil _) (by kernel_rfl) gq rM none (by kernel_rfl) (fun x y h=>(Dt x).trans h)
def tT:List (Nat×Ann):=[]
noncomputable def iC:az:=⟨[.box [.val (.slice .str),.val .bool],.val (.slice .str)],[.val tI],fun x=>tN x.1 x.2.1⟩
noncomputable def wQ:Cx:=⟨Tryz.prog,[(128,dL),(175,gq)],[]⟩
theorem FC:∀ x,aO wQ tT none Tryz.f125 iC x=iC.m x:=by intro x;kernel_rfl
theorem GL:aq Tryz.prog 125:=an (fn:=Tryz.f125) (by kernel_rfl) rfl (by decide)
theorem G9:aF Tryz.prog 125 iC:=aA (X:=wQ) (.cons l8 l6 (.cons EK Ew (.nil _))) (by kernel_rfl) iC tT none (by kernel_rfl) (fun x y h=>(FC x).trans h)
def wG:List (Nat×Ann):=[]
noncomputable def jv:az:=⟨[],[.val (.slice .str)],fun x=>D1 ⟩
noncomputable def zQ:Cx:=⟨Tryz.prog,[],[]⟩
theorem Iu:∀ x,aO zQ wG none Tryz.f127 jv x=jv.m x:=by intro x;kernel_rfl
theorem Jx:aq Tryz.prog 127:=an (fn:=Tryz.f127) (by kernel_rfl) rfl (by decide)
theorem JX:aF Tryz.prog 127 jv:=aA (X:=zQ) (.nil _) (by kernel_rfl) jv wG none (by kernel_rfl) (fun x y h=>(Iu x).trans h)
def jH:List (Nat×Ann):=[]
noncomputable def cU:az:=⟨[.val .str,.val .str],[.val .bool],fun x=>mQ x.1 x.2.1⟩
noncomputable def kX:Cx:=⟨Tryz.prog,[],[]⟩
theorem tK:∀ x,aO kX jH none Tryz.f235 cU x=cU.m x:=by intro x;kernel_rfl
theorem ur:aq Tryz.prog 235:=an (fn:=Tryz.f235) (by kernel_rfl) rfl (by decide)
theorem uC:aF Tryz.prog 235 cU:=aA (X:=kX) (.nil _) (by kernel_rfl) cU jH none (by kernel_rfl) (fun x y h=>(tK x).trans h)
def jF:List (Nat×Ann):=[]
noncomputable def cS:az:=⟨[.val .str,.val .str],[.val .str,.val .bool],fun x=>mO x.1 x.2.1⟩
noncomputable def kV:Cx:=⟨Tryz.prog,[(235,cU)],[]⟩
theorem tH:∀ x,aO kV jF none Tryz.f223 cS x=cS.m x:=by intro x;kernel_rfl
theorem um:aq Tryz.prog 223:=an (fn:=Tryz.f223) (by kernel_rfl) rfl (by decide)
theorem uA:aF Tryz.prog 223 cS:=aA (X:=kV) (.cons uC ur (.nil _)) (by kernel_rfl) cS jF none (by kernel_rfl) (fun x y h=>(tH x).trans h)
def tU:List (Nat×Ann):=[]
noncomputable def iE:az:=⟨[.val .str,.val .str],[.val .str,.val .bool],fun x=>Bi x.1 x.2.1⟩
noncomputable def wS:Cx:=⟨Tryz.prog,[(223,cS)],[]⟩
theorem FE:∀ x,aO wS tU none Tryz.f202 iE x=iE.m x:=by intro x;kernel_rfl
theorem GO:aq Tryz.prog 202:=an (fn:=Tryz.f202) (by kernel_rfl) rfl (by decide)
theorem Hg:aF Tryz.prog 202 iE:=aA (X:=wS) (.cons uA um (.nil _)) (by kernel_rfl) iE tU none (by kernel_rfl) (fun x y h=>(FE x).trans h)
def mj:List (Nat×Ann):=[]
noncomputable def dJ:az:=⟨[.val .str,.val .str],[.val tI],fun x=>qc x.1 x.2.1⟩
noncomputable def nQ:Cx:=⟨Tryz.prog,[(228,gf)],[]⟩
theorem wU:∀ x,aO nQ mj none Tryz.f219 dJ x=dJ.m x:=by intro x;kernel_rfl
theorem xV:aq Tryz.prog 219:=an (fn:=Tryz.f219) (by kernel_rfl) rfl (by decide)
theorem xW:aF Tryz.prog 219 dJ:=aA (X:=nQ) (.cons uE uw (.nil _)) (by kernel_rfl) dJ mj none (by kernel_rfl) (fun x y h=>(wU x).trans h)
def nO:List (Nat×Ann):=[]
noncomputable def dU:az:=⟨[.val .str,.val .str],[.val .str,.val .str,.val .bool],fun x=>rT x.1 x.2.1⟩
noncomputable def oV:Cx:=⟨Tryz.prog,[(219,dJ)],[]⟩
theorem yC:∀ x,aO oV nO none Tryz.f224 dU x=dU.m x:=by intro x;kernel_rfl
theorem z7:aq Tryz.prog 224:=an (fn:=Tryz.f224) (by kernel_rfl) rfl (by decide)
theorem Ai:aF Tryz.prog 224 dU:=aA (X:=oV) (.cons xW xV (.nil _)) (by kernel_rfl) dU nO none (by kernel_rfl) (fun x y h=>(yC x).trans h)
def B7:List (Nat×Ann):=[]
noncomputable def oO:az:=⟨[.val .str,.val .str],[.val .str,.val .str,.val .bool],fun x=>L6 x.1 x.2.1⟩
noncomputable def Fx:Cx:=⟨Tryz.prog,[(224,dU)],[]⟩
theorem Nu:∀ x,aO Fx B7 none Tryz.f203 oO x=oO.m x:=by intro x;kernel_rfl
theorem O2:aq Tryz.prog 203:=an (fn:=Tryz.f203) (by kernel_rfl) rfl (by decide)
theorem Ph:aF Tryz.prog 203 oO:=aA (X:=Fx) (.cons Ai z7 (.nil _)) (by kernel_rfl) oO B7 none (by kernel_rfl) (fun x y h=>(Nu x).trans h)
def xX:List (Nat×Ann):=[(300001,⟨[(2,.val .bool)],[],[],fun _=>0⟩)]
noncomputable def kI:az:=⟨[.val .str],[.val .bool],fun x=>E0 x.1⟩
noncomputable def A6:Cx:=⟨Tryz.prog,[(200,jX)],[]⟩
theorem Jh:∀ x,aO A6 xX none Tryz.f204 kI x=kI.m x:=by intro x;kernel_rfl
theorem K9:aq Tryz.prog 204:=an (fn:=Tryz.f204) (by kernel_rfl) rfl (by decide)
theorem Lf:aF Tryz.prog 204 kI:=aA (X:=A6) (.cons xd DS (.nil _)) (by kernel_rfl) kI xX none (by kernel_rfl) (fun x y h=>(Jh x).trans h)
def wN:List (Nat×Ann):=[(3,⟨[(2,.ref 2 0),(3,.ref 3 0),(4,.ref 4 0),(5,.rowR 18),(20,.val (.slice (.int .u32))),(21,.val tI),(22,.val tI)],[(2,tW),(3,tW),(4,Nb)],[.rowC 18 163 (.int .u32)],bq _⟩),
 (7,⟨[(2,.ref 2 0),(3,.ref 3 0),(4,.ref 4 0),(5,.rowR 18),(6,.val tI),(7,.val (.int .u32)),(8,.val (.int .u64)),(20,.val (.slice (.int .u32))),(21,.val tI),(22,.val tI),(28,.val (.slice (.int .u32))),(29,.val tI),(30,.val tI)],[(2,tW),(3,tW),(4,Nb)],[.rowC 18 163 (.int .u32)],bq _⟩),
 (200003,⟨[(2,.ref 2 0),(3,.ref 3 0),(4,.ref 4 0),(5,.rowR 18)],[(2,tW),(3,tW),(4,Nb)],[.rowC 18 163 (.int .u32)],fun _=>0⟩),
 (200007,⟨[(2,.ref 2 0),(3,.ref 3 0),(4,.ref 4 0),(5,.rowR 18),(6,.val tI),(8,.val (.int .u64)),(20,.val (.slice (.int .u32))),(21,.val tI),(22,.val tI)],[(2,tW),(3,tW),(4,Nb)],[.rowC 18 163 (.int .u32)],fun _=>0⟩)]
noncomputable def jB:az:=⟨[.val cH,.val cH],[.val cH],fun x=>Ee x.1 x.2.1⟩
noncomputable def zX:Cx:=⟨Tryz.prog,[(184,gw)],[]⟩
theorem IB:∀ x,aO zX wN none Tryz.f225 jB x=jB.m x:=by intro x;kernel_rfl
theorem JG:aq Tryz.prog 225:=an (fn:=Tryz.f225) (by kernel_rfl) rfl (by decide)
theorem J6:aF Tryz.prog 225 jB:=aA (X:=zX) (.cons qg qb (.nil _)) (by kernel_rfl) jB wN none (by kernel_rfl) (fun x y h=>(IB x).trans h)
def x7:List (Nat×Ann):=[]
noncomputable def kM:az:=⟨[.val cH,.val cH],[.val cH],fun x=>Gk x.1 x.2.1⟩
noncomputable def Bb:Cx:=⟨Tryz.prog,[(184,gw),(207,oP),(209,jb),(210,mG)],[]⟩
theorem Jm:∀ x,aO Bb x7 none Tryz.f226 kM x=kM.m x:=by intro x;kernel_rfl
theorem Ld:aq Tryz.prog 226:=an (fn:=Tryz.f226) (by kernel_rfl) rfl (by decide)
theorem Lj:aF Tryz.prog 226 kM:=aA (X:=Bb) (.cons qg qb (.cons Pj O3 (.cons CR CB (.cons Ii Ie (.nil _))))) (by kernel_rfl) kM x7 none (by kernel_rfl) (fun x y h=>(Jm x).trans h)
def BZ:List (Nat×Ann):=[(3,⟨[(0,.val .bool),(1,.val .str),(2,.val .str),(6,.ref 6 0),(8,.ref 8 0),(14,.val tI),(15,.val tI)],[(6,Fk),(8,tW)],[],bq _⟩),
 (200003,⟨[(0,.val .bool),(2,.val .str),(6,.ref 6 0),(8,.ref 8 0)],[(6,Fk),(8,tW)],[],fun _=>0⟩)]
noncomputable def oH:az:=⟨[.val .bool,.val .str,.val .str],[.val au,.val tI],fun x=>Lm x.1 x.2.1 x.2.2.1⟩
noncomputable def Fo:Cx:=⟨Tryz.prog,[(146,nM),(181,iI),(182,gU),(183,lu),(225,jB),(226,kM)],[]⟩
theorem Nl:∀ x,aO Fo BZ none Tryz.f205 oH x=oH.m x:=by intro x;kernel_rfl
theorem OY:aq Tryz.prog 205:=an (fn:=Tryz.f205) (by kernel_rfl) rfl (by decide)
theorem Pd:aF Tryz.prog 205 oH:=aA (X:=Fo) (.cons EL Ey (.cons Bh Bf (.cons An Ad (.cons FT FK (.cons J6 JG (.cons Lj Ld (.nil _))))))) (by kernel_rfl) oH BZ none (by kernel_rfl) (fun x y h=>(Nl x).trans h)
def wC:List (Nat×Ann):=[(300003,⟨[(40,.val .bool)],[],[],fun _=>0⟩)]
noncomputable def jq:az:=⟨[.val .str],[.val au,.val tI],fun x=>Dv x.1⟩
noncomputable def zM:Cx:=⟨Tryz.prog,[(200,jX),(202,iE),(203,oO),(204,kI),(205,oH)],[]⟩
theorem Iq:∀ x,aO zM wC none Tryz.f176 jq x=jq.m x:=by intro x;kernel_rfl
theorem Ju:aq Tryz.prog 176:=an (fn:=Tryz.f176) (by kernel_rfl) rfl (by decide)
theorem JU:aF Tryz.prog 176 jq:=aA (X:=zM) (.cons xd DS (.cons Hg GO (.cons Ph O2 (.cons Lf K9 (.cons Pd OY (.nil _)))))) (by kernel_rfl) jq wC none (by kernel_rfl) (fun x y h=>(Iq x).trans h)
def rL:List (Nat×Ann):=[]
noncomputable def gp:az:=⟨[.box [.val (.slice .str),.val .bool]],[.val au],fun x=>qP x.1⟩
noncomputable def uh:Cx:=⟨Tryz.prog,[(128,dL),(176,jq)],[]⟩
theorem Ds:∀ x,aO uh rL none Tryz.f129 gp x=gp.m x:=by intro x;kernel_rfl
theorem Et:aq Tryz.prog 129:=an (fn:=Tryz.f129) (by kernel_rfl) rfl (by decide)
theorem EH:aF Tryz.prog 129 gp:=aA (X:=uh) (.cons l8 l6 (.cons JU Ju (.nil _))) (by kernel_rfl) gp rL none (by kernel_rfl) (fun x y h=>(Ds x).trans h)
def xY:List (Nat×Ann):=[(100008,⟨[(2,.ref 2 0),(6,.ref 19 0),(7,.ref 7 0),(8,.ref 8 0)],[(2,p8),(7,p8),(8,IZ),(19,Fi)],[],fun _=>0⟩),
 (100010,⟨[(2,.ref 2 0),(6,.ref 19 0),(7,.ref 7 0),(8,.ref 8 0)],[(2,p8),(7,p8),(8,IZ),(19,Fi)],[],fun _=>0⟩),
 (100012,⟨[(2,.ref 2 0),(6,.ref 19 0),(7,.ref 7 0),(8,.ref 8 0)],[(2,p8),(7,p8),(8,IZ),(19,Fi)],[],fun _=>0⟩),
 (100014,⟨[(2,.ref 2 0),(6,.ref 19 0),(7,.ref 7 0),(8,.ref 8 0)],[(2,p8),(7,p8),(8,IZ),(19,Fi)],[],fun _=>0⟩),
 (100016,⟨[(2,.ref 2 0),(6,.ref 19 0),(7,.ref 7 0),(8,.ref 8 0)],[(2,p8),(7,p8),(8,IZ),(19,Fi)],[],fun _=>0⟩),
 (100018,⟨[(2,.ref 2 0),(6,.ref 19 0),(7,.ref 7 0)],[(2,p8),(7,p8),(19,Fi)],[],fun _=>0⟩)]
noncomputable def kJ:az:=⟨[.val .str],[.val av,.val .bool],fun x=>F5 x.1⟩
noncomputable def A7:Cx:=⟨Tryz.prog,[(63,jY),(123,sI),(124,gR),(125,iC),(126,lQ),(127,jv),(128,dL),(129,gp)],[]⟩
theorem Ji:∀ x,aO A7 xY none Tryz.f82 kJ x=kJ.m x:=by intro x;kernel_rfl
theorem La:aq Tryz.prog 82:=an (fn:=Tryz.f82) (by kernel_rfl) rfl (by decide)
theorem Lg:aF Tryz.prog 82 kJ:=aA (X:=A7) (.cons DY DT (.cons SD Si (.cons FX FO (.cons G9 GL (.cons MG Mz (.cons JX Jx (.cons l8 l6 (.cons EH Et (.nil _))))))))) (by kernel_rfl) kJ xY none (by kernel_rfl) (fun x y h=>(Ji x).trans h)
def Dx:List (Nat×Ann):=[(6,⟨[(5,.val (.slice .str)),(6,.val .bool),(7,.own 35 av),(21,.val (.slice .str)),(22,.val tI),(23,.val tI)],[],[],bq _⟩),
 (200006,⟨[(7,.own 35 av)],[],[],fun _=>0⟩),
 (300009,⟨[(45,.val .bool)],[],[],fun _=>0⟩)]
noncomputable def qs:az:=⟨[.val .str],[.row 35 av,.val tI,.val tI],fun x=>N8 x.1⟩
noncomputable def HW:Cx:=⟨Tryz.prog,[(13,eC),(81,sH),(82,kJ)],[]⟩
theorem ON:∀ x,aO HW Dx none Tryz.f48 qs x=qs.m x:=by intro x;kernel_rfl
theorem QX:aq Tryz.prog 48:=an (fn:=Tryz.f48) (by kernel_rfl) rfl (by decide)
theorem Q5:aF Tryz.prog 48 qs:=aA (X:=HW) (.cons qN qM (.cons SC Sh (.cons Lg La (.nil _)))) (by kernel_rfl) qs Dx none (by kernel_rfl) (fun x y h=>(ON x).trans h)
def HI:List (Nat×Ann):=[(300002,⟨[(0,.val .bool)],[],[],fun _=>0⟩)]
noncomputable def uM:az:=⟨[],[.val .bool],fun x=>GW ⟩
noncomputable def Lu:Cx:=⟨Tryz.prog,[(48,qs)],[]⟩
theorem RU:∀ x,aO Lu HI none Tryz.f16 uM x=uM.m x:=by intro x;kernel_rfl
theorem To:aq Tryz.prog 16:=an (fn:=Tryz.f16) (by kernel_rfl) rfl (by decide)
theorem TD:aF Tryz.prog 16 uM:=aA (X:=Lu) (.cons Q5 QX (.nil _)) (by kernel_rfl) uM HI none (by kernel_rfl) (fun x y h=>(RU x).trans h)
end Go.Proofs.SeatA
set_option maxRecDepth 100000
namespace Go.Proofs.SeatA
open Go.Dn Go.Md Go.Proofs
def HR:List (Nat×Ann):=[(3,⟨[(3,.val tI),(8,.val tI),(9,.val tI)],[],[],bq _⟩),
 (200003,⟨[(3,.val tI)],[],[],fun _=>0⟩)]
noncomputable def nL:az:=⟨[.val au],[.val tI],fun x=>nG x.1⟩
noncomputable def LG:Cx:=⟨Tryz.prog,[],[]⟩
theorem R4:∀ x,aO LG HR none Tryz.f137 nL x=nL.m x:=by intro x;kernel_rfl
theorem Ev:aq Tryz.prog 137:=an (fn:=Tryz.f137) (by kernel_rfl) rfl (by decide)
theorem EJ:aF Tryz.prog 137 nL:=aA (X:=LG) (.nil _) (by kernel_rfl) nL HR none (by kernel_rfl) (fun x y h=>(R4 x).trans h)
def E5:List (Nat×Ann):=[(1,⟨[(1,.ref 1 0),(2,.ref 2 0)],[(1,Fk),(2,Fk)],[],bq _⟩),
 (200001,⟨[(1,.ref 1 0),(2,.ref 2 0)],[(1,Fk),(2,Fk)],[],fun _=>0⟩)]
noncomputable def jy:az:=⟨[.val au],[.val au],fun x=>ff x.1⟩
noncomputable def I8:Cx:=⟨Tryz.prog,[],[]⟩
theorem QM:∀ x,aO I8 E5 none Tryz.f85 jy x=jy.m x:=by intro x;kernel_rfl
theorem wY:aq Tryz.prog 85:=an (fn:=Tryz.f85) (by kernel_rfl) rfl (by decide)
theorem xe:aF Tryz.prog 85 jy:=aA (X:=I8) (.nil _) (by kernel_rfl) jy E5 none (by kernel_rfl) (fun x y h=>(QM x).trans h)
def IS:List (Nat×Ann):=[]
noncomputable def pS:az:=⟨[.val au,.val au],[.val au],fun x=>jU x.1 x.2.1⟩
noncomputable def Nh:Cx:=⟨Tryz.prog,[(85,jy),(137,nL)],[]⟩
theorem Ti:∀ x,aO Nh IS none Tryz.f139 pS x=pS.m x:=by intro x;kernel_rfl
theorem GN:aq Tryz.prog 139:=an (fn:=Tryz.f139) (by kernel_rfl) rfl (by decide)
theorem Hf:aF Tryz.prog 139 pS:=aA (X:=Nh) (.cons xe wY (.cons EJ Ev (.nil _))) (by kernel_rfl) pS IS none (by kernel_rfl) (fun x y h=>(Ti x).trans h)
def HS:List (Nat×Ann):=[]
noncomputable def qJ:az:=⟨[.val au,.val au],[.val au],fun x=>C2 x.1 x.2.1⟩
noncomputable def LH:Cx:=⟨Tryz.prog,[(139,pS)],[]⟩
theorem R5:∀ x,aO LH HS none Tryz.f93 qJ x=qJ.m x:=by intro x;kernel_rfl
theorem LU:aq Tryz.prog 93:=an (fn:=Tryz.f93) (by kernel_rfl) rfl (by decide)
theorem LX:aF Tryz.prog 93 qJ:=aA (X:=LH) (.cons Hf GN (.nil _)) (by kernel_rfl) qJ HS none (by kernel_rfl) (fun x y h=>(R5 x).trans h)
def IQ:List (Nat×Ann):=[]
noncomputable def pR:az:=⟨[.val nN],[.val au],fun x=>wk x.1⟩
noncomputable def Ng:Cx:=⟨Tryz.prog,[(93,qJ)],[]⟩
theorem Th:∀ x,aO Ng IQ none Tryz.f94 pR x=pR.m x:=by intro x;kernel_rfl
theorem GM:aq Tryz.prog 94:=an (fn:=Tryz.f94) (by kernel_rfl) rfl (by decide)
theorem He:aF Tryz.prog 94 pR:=aA (X:=Ng) (.cons LX LU (.nil _)) (by kernel_rfl) pR IQ none (by kernel_rfl) (fun x y h=>(Th x).trans h)
def B6:List (Nat×Ann):=[]
noncomputable def lB:az:=⟨[.val nN],[.val nN],fun x=>nH x.1⟩
noncomputable def Fw:Cx:=⟨Tryz.prog,[(93,qJ),(94,pR)],[]⟩
theorem Nt:∀ x,aO Fw B6 none Tryz.f58 lB x=lB.m x:=by intro x;kernel_rfl
theorem FP:aq Tryz.prog 58:=an (fn:=Tryz.f58) (by kernel_rfl) rfl (by decide)
theorem FY:aF Tryz.prog 58 lB:=aA (X:=Fw) (.cons LX LU (.cons He GM (.nil _))) (by kernel_rfl) lB B6 none (by kernel_rfl) (fun x y h=>(Nt x).trans h)
def M5:List (Nat×Ann):=[(2,⟨[(0,.val tI),(2,.ref 2 0),(3,.ref 3 0)],[(2,dX),(3,dX)],[],bq _⟩),
 (200002,⟨[(2,.ref 2 0),(3,.ref 3 0)],[(2,dX),(3,dX)],[],fun _=>0⟩)]
noncomputable def yU:az:=⟨[.val tI],[.val bp],fun x=>KT x.1⟩
noncomputable def RT:Cx:=⟨Tryz.prog,[],[]⟩
theorem V0:∀ x,aO RT M5 none Tryz.f151 yU x=yU.m x:=by intro x;kernel_rfl
theorem Sj:aq Tryz.prog 151:=an (fn:=Tryz.f151) (by kernel_rfl) rfl (by decide)
theorem SE:aF Tryz.prog 151 yU:=aA (X:=RT) (.nil _) (by kernel_rfl) yU M5 none (by kernel_rfl) (fun x y h=>(V0 x).trans h)
def DB:List (Nat×Ann):=[(1,⟨[(1,.ref 1 0),(2,.ref 2 0)],[(1,lC),(2,dX)],[],bq _⟩),
 (200001,⟨[(1,.ref 1 0),(2,.ref 2 0)],[(1,lC),(2,dX)],[],fun _=>0⟩)]
noncomputable def mF:az:=⟨[.val bp],[.val bp],fun x=>nj x.1⟩
noncomputable def H6:Cx:=⟨Tryz.prog,[],[]⟩
theorem OR:∀ x,aO H6 DB none Tryz.f187 mF x=mF.m x:=by intro x;kernel_rfl
theorem Ic:aq Tryz.prog 187:=an (fn:=Tryz.f187) (by kernel_rfl) rfl (by decide)
theorem Ih:aF Tryz.prog 187 mF:=aA (X:=H6) (.nil _) (by kernel_rfl) mF DB none (by kernel_rfl) (fun x y h=>(OR x).trans h)
def DA:List (Nat×Ann):=[(3,⟨[(3,.ref 3 0),(4,.ref 4 0),(5,.ref 5 0),(27,.val (.slice tI)),(28,.val tI),(29,.val tI)],[(3,lC),(4,dX),(5,Fj)],[.rowC 24 3 tI],bq _⟩),
 (6,⟨[(3,.ref 3 0),(4,.ref 4 0),(5,.ref 5 0),(6,.val tI),(7,.val tI),(27,.val (.slice tI)),(28,.val tI),(29,.val tI),(35,.val (.slice tI)),(36,.val tI),(37,.val tI)],[(3,lC),(4,dX),(5,Fj)],[.rowC 24 3 tI],bq _⟩),
 (14,⟨[(4,.ref 4 0),(5,.ref 5 0),(86,.val tI),(87,.val tI)],[(4,dX),(5,Fj)],[.rowC 24 3 tI],bq _⟩),
 (200003,⟨[(4,.ref 4 0),(5,.ref 5 0)],[(4,dX),(5,Fj)],[.rowC 24 3 tI],fun _=>0⟩),
 (200006,⟨[(3,.ref 3 0),(4,.ref 4 0),(5,.ref 5 0),(27,.val (.slice tI)),(28,.val tI),(29,.val tI)],[(3,lC),(4,dX),(5,Fj)],[.rowC 24 3 tI],fun _=>0⟩),
 (200014,⟨[(4,.ref 4 0),(5,.ref 5 0)],[(4,dX),(5,Fj)],[.rowC 24 3 tI],fun _=>0⟩)]
noncomputable def mE:az:=⟨[.val bp,.val bp],[.val bp],fun x=>th x.1 x.2.1⟩
noncomputable def HZ:Cx:=⟨Tryz.prog,[(187,mF)],[]⟩
theorem OQ:∀ x,aO HZ DA none Tryz.f150 mE x=mE.m x:=by intro x;kernel_rfl
theorem Ib:aq Tryz.prog 150:=an (fn:=Tryz.f150) (by kernel_rfl) rfl (by decide)
theorem Ig:aF Tryz.prog 150 mE:=aA (X:=HZ) (.cons Ih Ic (.nil _)) (by kernel_rfl) mE DA none (by kernel_rfl) (fun x y h=>(OQ x).trans h)
def HM:List (Nat×Ann):=[(3,⟨[(2,.ref 2 0),(3,.ref 3 0),(5,.val tI),(6,.val tI)],[(2,dX),(3,lC)],[],bq _⟩),
 (200003,⟨[(2,.ref 2 0),(3,.ref 3 0)],[(2,dX),(3,lC)],[],fun _=>0⟩)]
noncomputable def uP:az:=⟨[.val tI],[.val bp],fun x=>Ht x.1⟩
noncomputable def LA:Cx:=⟨Tryz.prog,[(150,mE),(151,yU)],[]⟩
theorem RY:∀ x,aO LA HM none Tryz.f152 uP x=uP.m x:=by intro x;kernel_rfl
theorem Tr:aq Tryz.prog 152:=an (fn:=Tryz.f152) (by kernel_rfl) rfl (by decide)
theorem TG:aF Tryz.prog 152 uP:=aA (X:=LA) (.cons Ig Ib (.cons SE Sj (.nil _))) (by kernel_rfl) uP HM none (by kernel_rfl) (fun x y h=>(RY x).trans h)
def M4:List (Nat×Ann):=[]
noncomputable def C9:az:=⟨[.val au,.val tI],[.val bp],fun x=>BD x.1 x.2.1⟩
noncomputable def RS:Cx:=⟨Tryz.prog,[(150,mE),(151,yU),(152,uP)],[]⟩
theorem VZ:∀ x,aO RS M4 none Tryz.f96 C9 x=C9.m x:=by intro x;kernel_rfl
theorem Xc:aq Tryz.prog 96:=an (fn:=Tryz.f96) (by kernel_rfl) rfl (by decide)
theorem Xv:aF Tryz.prog 96 C9:=aA (X:=RS) (.cons Ig Ib (.cons SE Sj (.cons TG Tr (.nil _)))) (by kernel_rfl) C9 M4 none (by kernel_rfl) (fun x y h=>(VZ x).trans h)
def HL:List (Nat×Ann):=[]
noncomputable def uO:az:=⟨[.val bp],[.val bp],fun x=>Hr x.1⟩
noncomputable def Lx:Cx:=⟨Tryz.prog,[],[]⟩
theorem RX:∀ x,aO Lx HL none Tryz.f149 uO x=uO.m x:=by intro x;kernel_rfl
theorem Tq:aq Tryz.prog 149:=an (fn:=Tryz.f149) (by kernel_rfl) rfl (by decide)
theorem TF:aF Tryz.prog 149 uO:=aA (X:=Lx) (.nil _) (by kernel_rfl) uO HL none (by kernel_rfl) (fun x y h=>(RX x).trans h)
def HP:List (Nat×Ann):=[(4,⟨[(0,.val (.slice tI)),(1,.val (.slice tI)),(5,.val tI)],[],[],bq _⟩),
 (200004,⟨[],[],[],fun _=>0⟩)]
noncomputable def uS:az:=⟨[.val (.slice tI),.val (.slice tI)],[.val tI],fun x=>Hu x.1 x.2.1⟩
noncomputable def LD:Cx:=⟨Tryz.prog,[],[]⟩
theorem R2:∀ x,aO LD HP none Tryz.f185 uS x=uS.m x:=by intro x;kernel_rfl
theorem Tv:aq Tryz.prog 185:=an (fn:=Tryz.f185) (by kernel_rfl) rfl (by decide)
theorem TJ:aF Tryz.prog 185 uS:=aA (X:=LD) (.nil _) (by kernel_rfl) uS HP none (by kernel_rfl) (fun x y h=>(R2 x).trans h)
def HN:List (Nat×Ann):=[]
noncomputable def uQ:az:=⟨[.val (.slice tI),.val tI],[.val tI],fun x=>yR x.1 x.2.1⟩
noncomputable def LB:Cx:=⟨Tryz.prog,[],[]⟩
theorem RZ:∀ x,aO LB HN none Tryz.f186 uQ x=uQ.m x:=by intro x;kernel_rfl
theorem Tt:aq Tryz.prog 186:=an (fn:=Tryz.f186) (by kernel_rfl) rfl (by decide)
theorem TH:aF Tryz.prog 186 uQ:=aA (X:=LB) (.nil _) (by kernel_rfl) uQ HN none (by kernel_rfl) (fun x y h=>(RZ x).trans h)
def IN:List (Nat×Ann):=[(7,⟨[(2,.ref 2 0),(3,.ref 3 0),(4,.ref 4 0),(5,.ref 5 0),(6,.val tI),(31,.val tI),(32,.val tI)],[(2,lC),(3,lC),(4,dX),(5,dX)],[],bq _⟩),
 (19,⟨[(2,.ref 2 0),(3,.ref 3 0),(4,.ref 4 0),(9,.ref 9 0),(10,.val tI),(70,.val tI),(71,.val tI)],[(2,lC),(3,lC),(4,dX),(9,dX)],[],bq _⟩),
 (100003,⟨[(2,.ref 2 0),(3,.ref 3 0),(4,.ref 4 0)],[(2,lC),(3,lC),(4,dX)],[],fun _=>0⟩),
 (100012,⟨[(2,.ref 2 0),(3,.ref 3 0),(4,.ref 4 0),(5,.ref 5 0),(6,.val tI),(8,.val tI),(31,.val tI),(32,.val tI)],[(2,lC),(3,lC),(4,dX),(5,dX)],[],fun _=>0⟩),
 (200007,⟨[(4,.ref 4 0),(5,.ref 5 0)],[(4,dX),(5,dX)],[],fun _=>0⟩),
 (200019,⟨[(4,.ref 4 0),(9,.ref 9 0)],[(4,dX),(9,dX)],[],fun _=>0⟩)]
noncomputable def xO:az:=⟨[.val bp,.val bp],[.val bp],fun x=>KU x.1 x.2.1⟩
noncomputable def Nd:Cx:=⟨Tryz.prog,[(185,uS),(186,uQ),(187,mF)],[]⟩
theorem Tf:∀ x,aO Nd IN none Tryz.f148 xO x=xO.m x:=by intro x;kernel_rfl
theorem UW:aq Tryz.prog 148:=an (fn:=Tryz.f148) (by kernel_rfl) rfl (by decide)
theorem Vb:aF Tryz.prog 148 xO:=aA (X:=Nd) (.cons TJ Tv (.cons TH Tt (.cons Ih Ic (.nil _)))) (by kernel_rfl) xO IN none (by kernel_rfl) (fun x y h=>(Tf x).trans h)
def IP:List (Nat×Ann):=[]
noncomputable def xP:az:=⟨[.val bp],[.val tI],fun x=>KV x.1⟩
noncomputable def Nf:Cx:=⟨Tryz.prog,[],[]⟩
theorem Tg:∀ x,aO Nf IP none Tryz.f147 xP x=xP.m x:=by intro x;kernel_rfl
theorem UX:aq Tryz.prog 147:=an (fn:=Tryz.f147) (by kernel_rfl) rfl (by decide)
theorem Vc:aF Tryz.prog 147 xP:=aA (X:=Nf) (.nil _) (by kernel_rfl) xP IP none (by kernel_rfl) (fun x y h=>(Tg x).trans h)
def Ln:List (Nat×Ann):=[]
noncomputable def AA:az:=⟨[.val bp,.val bp],[.val tI],fun x=>Kk x.1 x.2.1⟩
noncomputable def PX:Cx:=⟨Tryz.prog,[(147,xP),(148,xO),(149,uO)],[]⟩
theorem UM:∀ x,aO PX Ln none Tryz.f95 AA x=AA.m x:=by intro x;kernel_rfl
theorem V7:aq Tryz.prog 95:=an (fn:=Tryz.f95) (by kernel_rfl) rfl (by decide)
theorem Wu:aF Tryz.prog 95 AA:=aA (X:=PX) (.cons Vc UX (.cons Vb UW (.cons TF Tq (.nil _)))) (by kernel_rfl) AA Ln none (by kernel_rfl) (fun x y h=>(UM x).trans h)
def Lp:List (Nat×Ann):=[]
noncomputable def sK:az:=⟨[.val au,.val au],[.val tI],fun x=>sC x.1 x.2.1⟩
noncomputable def PZ:Cx:=⟨Tryz.prog,[(95,AA),(96,C9)],[]⟩
theorem UO:∀ x,aO PZ Lp none Tryz.f59 sK x=sK.m x:=by intro x;kernel_rfl
theorem JD:aq Tryz.prog 59:=an (fn:=Tryz.f59) (by kernel_rfl) rfl (by decide)
theorem J3:aF Tryz.prog 59 sK:=aA (X:=PZ) (.cons Wu V7 (.cons Xv Xc (.nil _))) (by kernel_rfl) sK Lp none (by kernel_rfl) (fun x y h=>(UO x).trans h)
def AY:List (Nat×Ann):=[(3,⟨[(1,.val tI),(5,.val tI),(8,.val (.slice av)),(9,.val tI),(10,.val tI)],[],[],bq _⟩),
 (200003,⟨[(5,.val tI)],[],[],fun _=>0⟩)]
noncomputable def nq:az:=⟨[.val (.slice av),.val tI],[.val tI],fun x=>xg x.1 x.2.1⟩
noncomputable def DH:Cx:=⟨Tryz.prog,[],[]⟩
theorem Mj:∀ x,aO DH AY none Tryz.f50 nq x=nq.m x:=by intro x;kernel_rfl
theorem NI:aq Tryz.prog 50:=an (fn:=Tryz.f50) (by kernel_rfl) rfl (by decide)
theorem N0:aF Tryz.prog 50 nq:=aA (X:=DH) (.nil _) (by kernel_rfl) nq AY none (by kernel_rfl) (fun x y h=>(Mj x).trans h)
def p6:List (Nat×Ann):=[]
noncomputable def dP:az:=⟨[.val (.slice av)],[.row 35 av],fun x=>gM x.1⟩
noncomputable def rO:Cx:=⟨Tryz.prog,[],[]⟩
theorem Bo:∀ x,aO rO p6 none Tryz.f33 dP x=dP.m x:=by intro x;kernel_rfl
theorem rS:aq Tryz.prog 33:=an (fn:=Tryz.f33) (by kernel_rfl) rfl (by decide)
theorem rZ:aF Tryz.prog 33 dP:=aA (X:=rO) (.nil _) (by kernel_rfl) dP p6 none (by kernel_rfl) (fun x y h=>(Bo x).trans h)
def B2:List (Nat×Ann):=[(300014,⟨[(62,.val .bool)],[],[],fun _=>0⟩)]
noncomputable def oJ:az:=⟨[.val bu,.val (.slice av),.val av],[.val (.slice av),.val tI],fun x=>zh x.1 x.2.1 x.2.2.1⟩
noncomputable def Fs:Cx:=⟨Tryz.prog,[(13,eC),(33,dP),(49,gD),(50,nq),(51,dW),(52,dO)],[]⟩
theorem Np:∀ x,aO Fs B2 (some bH) Tryz.f17 oJ x=oJ.m x:=by intro x;kernel_rfl
theorem O0:aq Tryz.prog 17:=an (fn:=Tryz.f17) (by kernel_rfl) rfl (by decide)
theorem Pf:aF Tryz.prog 17 oJ:=aA (X:=Fs) (.cons qN qM (.cons rZ rS (.cons vA vu (.cons N0 NI (.cons pH pG (.cons ov oc (.nil _))))))) (by kernel_rfl) oJ B2 (some bH) (by kernel_rfl) (fun x y h=>(Np x).trans h)
end Go.Proofs.SeatA
set_option maxRecDepth 100000
namespace Go.Proofs.SeatA
open Go.Dn Go.Md Go.Proofs
def E7:List (Nat×Ann):=[]
noncomputable def oK:az:=⟨[.val tI,.val tI,.val tI],[.val .bool],fun x=>wj x.1 x.2.1 x.2.2.1⟩
noncomputable def Ja:Cx:=⟨Tryz.prog,[],[]⟩
theorem QO:∀ x,aO Ja E7 none Tryz.f118 oK x=oK.m x:=by intro x;kernel_rfl
theorem JB:aq Tryz.prog 118:=an (fn:=Tryz.f118) (by kernel_rfl) rfl (by decide)
theorem J1:aF Tryz.prog 118 oK:=aA (X:=Ja) (.nil _) (by kernel_rfl) oK E7 none (by kernel_rfl) (fun x y h=>(QO x).trans h)
def HO:List (Nat×Ann):=[]
noncomputable def uR:az:=⟨[.val tI],[.val .bool],fun x=>MP x.1⟩
noncomputable def LC:Cx:=⟨Tryz.prog,[(118,oK)],[]⟩
theorem R1:∀ x,aO LC HO none Tryz.f75 uR x=uR.m x:=by intro x;kernel_rfl
theorem Tu:aq Tryz.prog 75:=an (fn:=Tryz.f75) (by kernel_rfl) rfl (by decide)
theorem TI:aF Tryz.prog 75 uR:=aA (X:=LC) (.cons J1 JB (.nil _)) (by kernel_rfl) uR HO none (by kernel_rfl) (fun x y h=>(R1 x).trans h)
def HK:List (Nat×Ann):=[]
noncomputable def nK:az:=⟨[.val tI],[.val .bool],fun x=>yQ x.1⟩
noncomputable def Lw:Cx:=⟨Tryz.prog,[(75,uR)],[]⟩
theorem RW:∀ x,aO Lw HK none Tryz.f41 nK x=nK.m x:=by intro x;kernel_rfl
theorem Eu:aq Tryz.prog 41:=an (fn:=Tryz.f41) (by kernel_rfl) rfl (by decide)
theorem EI:aF Tryz.prog 41 nK:=aA (X:=Lw) (.cons TI Tu (.nil _)) (by kernel_rfl) nK HK none (by kernel_rfl) (fun x y h=>(RW x).trans h)
def Fa:List (Nat×Ann):=[(300001,⟨[(6,.val .bool)],[],[],fun _=>0⟩)]
noncomputable def iD:az:=⟨[.val tI,.val tI,.val tI],[.val .bool],fun x=>jm x.1 x.2.1 x.2.2.1⟩
noncomputable def Jd:Cx:=⟨Tryz.prog,[],[]⟩
theorem QU:∀ x,aO Jd Fa none Tryz.f42 iD x=iD.m x:=by intro x;kernel_rfl
theorem rR:aq Tryz.prog 42:=an (fn:=Tryz.f42) (by kernel_rfl) rfl (by decide)
theorem rY:aF Tryz.prog 42 iD:=aA (X:=Jd) (.nil _) (by kernel_rfl) iD Fa none (by kernel_rfl) (fun x y h=>(QU x).trans h)
def B5:List (Nat×Ann):=[]
noncomputable def oL:az:=⟨[.val tI],[.val .bool],fun x=>zx x.1⟩
noncomputable def Fv:Cx:=⟨Tryz.prog,[(42,iD)],[]⟩
theorem Ns:∀ x,aO Fv B5 none Tryz.f45 oL x=oL.m x:=by intro x;kernel_rfl
theorem O1:aq Tryz.prog 45:=an (fn:=Tryz.f45) (by kernel_rfl) rfl (by decide)
theorem Pg:aF Tryz.prog 45 oL:=aA (X:=Fv) (.cons rY rR (.nil _)) (by kernel_rfl) oL B5 none (by kernel_rfl) (fun x y h=>(Ns x).trans h)
def E9:List (Nat×Ann):=[(100005,⟨[(2,.ref 2 0),(3,.val tI),(7,.val .bool)],[(2,[.val .bool,.val .bool,.val .bool,.val .bool,.val .bool])],[],fun _=>0⟩)]
noncomputable def oN:az:=⟨[.val tI],[.val EY],fun x=>D7 x.1⟩
noncomputable def Jc:Cx:=⟨Tryz.prog,[],[]⟩
theorem QT:∀ x,aO Jc E9 none Tryz.f80 oN x=oN.m x:=by intro x;kernel_rfl
theorem JF:aq Tryz.prog 80:=an (fn:=Tryz.f80) (by kernel_rfl) rfl (by decide)
theorem J5:aF Tryz.prog 80 oN:=aA (X:=Jc) (.nil _) (by kernel_rfl) oN E9 none (by kernel_rfl) (fun x y h=>(QT x).trans h)
def wK:List (Nat×Ann):=[]
noncomputable def gT:az:=⟨[.val au],[.val tI],fun x=>jT x.1⟩
noncomputable def zU:Cx:=⟨Tryz.prog,[(118,oK)],[]⟩
theorem Iy:∀ x,aO zU wK none Tryz.f119 gT x=gT.m x:=by intro x;kernel_rfl
theorem Ab:aq Tryz.prog 119:=an (fn:=Tryz.f119) (by kernel_rfl) rfl (by decide)
theorem Al:aF Tryz.prog 119 gT:=aA (X:=zU) (.cons J1 JB (.nil _)) (by kernel_rfl) gT wK none (by kernel_rfl) (fun x y h=>(Iy x).trans h)
def HT:List (Nat×Ann):=[]
noncomputable def qK:az:=⟨[.val tI],[.val au],fun x=>yS x.1⟩
noncomputable def LI:Cx:=⟨Tryz.prog,[],[]⟩
theorem R6:∀ x,aO LI HT none Tryz.f120 qK x=qK.m x:=by intro x;kernel_rfl
theorem LV:aq Tryz.prog 120:=an (fn:=Tryz.f120) (by kernel_rfl) rfl (by decide)
theorem LY:aF Tryz.prog 120 qK:=aA (X:=LI) (.nil _) (by kernel_rfl) qK HT none (by kernel_rfl) (fun x y h=>(R6 x).trans h)
def vS:List (Nat×Ann):=[(300001,⟨[(32,.val .bool)],[],[],fun _=>0⟩)]
noncomputable def fT:az:=⟨[.val au,.val .bool],[.val tI],fun x=>lK x.1 x.2.1⟩
noncomputable def yf:Cx:=⟨Tryz.prog,[(59,sK),(119,gT),(120,qK)],[]⟩
theorem Gx:∀ x,aO yf vS none Tryz.f76 fT x=fT.m x:=by intro x;kernel_rfl
theorem yh:aq Tryz.prog 76:=an (fn:=Tryz.f76) (by kernel_rfl) rfl (by decide)
theorem yl:aF Tryz.prog 76 fT:=aA (X:=yf) (.cons J3 JD (.cons Al Ab (.cons LY LV (.nil _)))) (by kernel_rfl) fT vS none (by kernel_rfl) (fun x y h=>(Gx x).trans h)
def zI:List (Nat×Ann):=[]
noncomputable def ja:az:=⟨[.val au],[.val tI],fun x=>qq x.1⟩
noncomputable def Ch:Cx:=⟨Tryz.prog,[(59,sK),(119,gT),(120,qK)],[]⟩
theorem K5:∀ x,aO Ch zI none Tryz.f77 ja x=ja.m x:=by intro x;kernel_rfl
theorem Cy:aq Tryz.prog 77:=an (fn:=Tryz.f77) (by kernel_rfl) rfl (by decide)
theorem CO:aF Tryz.prog 77 ja:=aA (X:=Ch) (.cons J3 JD (.cons Al Ab (.cons LY LV (.nil _)))) (by kernel_rfl) ja zI none (by kernel_rfl) (fun x y h=>(K5 x).trans h)
def E6:List (Nat×Ann):=[(4,⟨[(0,.val .str),(23,.val tI),(24,.val tI)],[],[],bq _⟩),
 (200004,⟨[],[],[],fun _=>0⟩)]
noncomputable def sJ:az:=⟨[.val .str],[.val .bool],fun x=>Kl x.1⟩
noncomputable def I9:Cx:=⟨Tryz.prog,[],[]⟩
theorem QN:∀ x,aO I9 E6 none Tryz.f74 sJ x=sJ.m x:=by intro x;kernel_rfl
theorem Sk:aq Tryz.prog 74:=an (fn:=Tryz.f74) (by kernel_rfl) rfl (by decide)
theorem SF:aF Tryz.prog 74 sJ:=aA (X:=I9) (.nil _) (by kernel_rfl) sJ E6 none (by kernel_rfl) (fun x y h=>(QN x).trans h)
def E4:List (Nat×Ann):=[]
noncomputable def lR:az:=⟨[.val .str],[.val .bool],fun x=>kZ x.1⟩
noncomputable def I7:Cx:=⟨Tryz.prog,[(74,sJ)],[]⟩
theorem QL:∀ x,aO I7 E4 none Tryz.f40 lR x=lR.m x:=by intro x;kernel_rfl
theorem Cv:aq Tryz.prog 40:=an (fn:=Tryz.f40) (by kernel_rfl) rfl (by decide)
theorem CM:aF Tryz.prog 40 lR:=aA (X:=I7) (.cons SF Sk (.nil _)) (by kernel_rfl) lR E4 none (by kernel_rfl) (fun x y h=>(QL x).trans h)
def x6:List (Nat×Ann):=[(300002,⟨[(8,.val .bool)],[],[],fun _=>0⟩),
 (300004,⟨[(20,.val .bool)],[],[],fun _=>0⟩),
 (300006,⟨[(29,.val .bool)],[],[],fun _=>0⟩),
 (300008,⟨[(38,.val .bool)],[],[],fun _=>0⟩),
 (300010,⟨[(53,.val .bool)],[],[],fun _=>0⟩),
 (300013,⟨[(114,.val .bool)],[],[],fun _=>0⟩)]
noncomputable def kL:az:=⟨[.val av],[.val tI],fun x=>tu x.1⟩
noncomputable def Ba:Cx:=⟨Tryz.prog,[(40,lR),(41,nK),(42,iD),(76,fT),(77,ja),(80,oN)],[]⟩
theorem Jl:∀ x,aO Ba x6 none Tryz.f46 kL x=kL.m x:=by intro x;kernel_rfl
theorem Lc:aq Tryz.prog 46:=an (fn:=Tryz.f46) (by kernel_rfl) rfl (by decide)
theorem Li:aF Tryz.prog 46 kL:=aA (X:=Ba) (.cons CM Cv (.cons EI Eu (.cons rY rR (.cons yl yh (.cons CO Cy (.cons J5 JF (.nil _))))))) (by kernel_rfl) kL x6 none (by kernel_rfl) (fun x y h=>(Jl x).trans h)
def A4:List (Nat×Ann):=[(2,⟨[(22,.rowR 22),(23,.val tI),(24,.val tI)],[],[.rowC 22 3 tI],bq _⟩),
 (200002,⟨[],[],[],fun _=>0⟩)]
noncomputable def nv:az:=⟨[.val av,.val av],[.val tI],fun x=>sD x.1 x.2.1⟩
noncomputable def DN:Cx:=⟨Tryz.prog,[],[]⟩
theorem Mp:∀ x,aO DN A4 none Tryz.f34 nv x=nv.m x:=by intro x;kernel_rfl
theorem NM:aq Tryz.prog 34:=an (fn:=Tryz.f34) (by kernel_rfl) rfl (by decide)
theorem N4:aF Tryz.prog 34 nv:=aA (X:=DN) (.nil _) (by kernel_rfl) nv A4 none (by kernel_rfl) (fun x y h=>(Mp x).trans h)
def E8:List (Nat×Ann):=[(3,⟨[(1,.val tI),(5,.val tI),(8,.val (.slice av)),(9,.val tI),(10,.val tI)],[],[],bq _⟩),
 (200003,⟨[(5,.val tI)],[],[],fun _=>0⟩)]
noncomputable def oM:az:=⟨[.val (.slice av),.val tI],[.val tI],fun x=>Ax x.1 x.2.1⟩
noncomputable def Jb:Cx:=⟨Tryz.prog,[],[]⟩
theorem QS:∀ x,aO Jb E8 none Tryz.f47 oM x=oM.m x:=by intro x;kernel_rfl
theorem JE:aq Tryz.prog 47:=an (fn:=Tryz.f47) (by kernel_rfl) rfl (by decide)
theorem J4:aF Tryz.prog 47 oM:=aA (X:=Jb) (.nil _) (by kernel_rfl) oM E8 none (by kernel_rfl) (fun x y h=>(QS x).trans h)
def zG:List (Nat×Ann):=[(4,⟨[(0,.val (.slice av)),(9,.val (.slice av)),(10,.val tI),(11,.val tI)],[],[],bq _⟩),
 (200004,⟨[],[],[],fun _=>0⟩),
 (300008,⟨[(21,.val .bool)],[],[],fun _=>0⟩),
 (300019,⟨[(70,.val .bool)],[],[],fun _=>0⟩)]
noncomputable def iZ:az:=⟨[.val (.slice av)],[.val tI],fun x=>qp x.1⟩
noncomputable def Cf:Cx:=⟨Tryz.prog,[(34,nv),(41,nK),(42,iD),(45,oL),(46,kL),(47,oM)],[]⟩
theorem K3:∀ x,aO Cf zG none Tryz.f14 iZ x=iZ.m x:=by intro x;kernel_rfl
theorem Cw:aq Tryz.prog 14:=an (fn:=Tryz.f14) (by kernel_rfl) rfl (by decide)
theorem CN:aF Tryz.prog 14 iZ:=aA (X:=Cf) (.cons N4 NM (.cons EI Eu (.cons rY rR (.cons Pg O1 (.cons Li Lc (.cons J4 JE (.nil _))))))) (by kernel_rfl) iZ zG none (by kernel_rfl) (fun x y h=>(K3 x).trans h)
def A3:List (Nat×Ann):=[(300004,⟨[(16,.val .bool)],[],[],fun _=>0⟩)]
noncomputable def nu:az:=⟨[.val bu,.val tI],[.val tI],fun x=>xG x.1 x.2.1⟩
noncomputable def DM:Cx:=⟨Tryz.prog,[(40,lR),(42,iD),(76,fT),(77,ja)],[]⟩
theorem Mo:∀ x,aO DM A3 none Tryz.f43 nu x=nu.m x:=by intro x;kernel_rfl
theorem NL:aq Tryz.prog 43:=an (fn:=Tryz.f43) (by kernel_rfl) rfl (by decide)
theorem N3:aF Tryz.prog 43 nu:=aA (X:=DM) (.cons CM Cv (.cons rY rR (.cons yl yh (.cons CO Cy (.nil _))))) (by kernel_rfl) nu A3 none (by kernel_rfl) (fun x y h=>(Mo x).trans h)
def zH:List (Nat×Ann):=[(12,⟨[(1,.ref 1 0),(51,.val tI),(52,.val tI)],[(1,[.val .str,.val .str,.val .str,.val tI,.val tI,.val (.slice gx)])],[],bq _⟩),
 (200012,⟨[],[],[],fun _=>0⟩)]
noncomputable def lS:az:=⟨[.val bu],[.val tI],fun x=>vk x.1⟩
noncomputable def Cg:Cx:=⟨Tryz.prog,[(40,lR),(41,nK),(42,iD),(43,nu)],[]⟩
theorem K4:∀ x,aO Cg zH none Tryz.f12 lS x=lS.m x:=by intro x;kernel_rfl
theorem MA:aq Tryz.prog 12:=an (fn:=Tryz.f12) (by kernel_rfl) rfl (by decide)
theorem MH:aF Tryz.prog 12 lS:=aA (X:=Cg) (.cons CM Cv (.cons EI Eu (.cons rY rR (.cons N3 NL (.nil _))))) (by kernel_rfl) lS zH none (by kernel_rfl) (fun x y h=>(K4 x).trans h)
def p7:List (Nat×Ann):=[(4,⟨[(0,.val (.slice av)),(1,.val (.slice av)),(12,.val tI),(13,.val tI)],[],[],bq _⟩),
 (200004,⟨[],[],[],fun _=>0⟩)]
noncomputable def fo:az:=⟨[.val (.slice av),.val (.slice av)],[.val .bool],fun x=>jW x.1 x.2.1⟩
noncomputable def rP:Cx:=⟨Tryz.prog,[],[]⟩
theorem Bp:∀ x,aO rP p7 none Tryz.f15 fo x=fo.m x:=by intro x;kernel_rfl
theorem Cz:aq Tryz.prog 15:=an (fn:=Tryz.f15) (by kernel_rfl) rfl (by decide)
theorem CP:aF Tryz.prog 15 fo:=aA (X:=rP) (.nil _) (by kernel_rfl) fo p7 none (by kernel_rfl) (fun x y h=>(Bp x).trans h)
end Go.Proofs.SeatA
