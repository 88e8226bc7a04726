/-
  Each function that the law reaches is as its plain model says, a further part. No condition.
-/
import Derived.Test.YtnamfglkolhhgabGreatDoorYy
set_option linter.all false
set_option maxRecDepth 100000
noncomputable section
namespace Go.Proofs.SeatU
open Go.Dn Go.Md Go.Proofs
def CB:List CK:=[.val .bool,.own 132 (.int .u32)]
def oG:List CK:=[.val .bool,.val (.slice (.int .u32))]
def J1:List CK:=[.val .bool,.val (.slice tI)]
def oH:List CK:=[.val .str,.val .str,.val tI,.own 42 aj]
def PV:List CK:=[.val .str,.val .str,.val tI,.rowR 101648]
def PW:List CK:=[.val .str,.val .str,.val tI,.rowR 41]
def qk:List CK:=[.val .str,.val .str,.val tI,.val (.slice aj)]
def CC:List CK:=[.val .str,.val .str,.val tI,.val tI,.val (.slice aL)]
def Dq:List (Nat×Ann):=[(3,⟨[(2,.ref 2 0),(3,.ref 3 0),(4,.ref 4 0),(5,.rowR 18),(20,.val (.slice (.int .u32))),(21,.val tI),(22,.val tI)],[(2,oG),(3,oG),(4,CB)],[.rowC 18 132 (.int .u32)],aT _⟩),
 (7,⟨[(2,.ref 2 0),(3,.ref 3 0),(4,.ref 4 0),(5,.rowR 18),(6,.val tI),(7,.val (.int .u32)),(8,.val (.int .u64)),(20,.val (.slice (.int .u32))),(21,.val tI),(22,.val tI),(28,.val (.slice (.int .u32))),(29,.val tI),(30,.val tI)],[(2,oG),(3,oG),(4,CB)],[.rowC 18 132 (.int .u32)],aT _⟩),
 (200003,⟨[(2,.ref 2 0),(3,.ref 3 0),(4,.ref 4 0),(5,.rowR 18)],[(2,oG),(3,oG),(4,CB)],[.rowC 18 132 (.int .u32)],fun _=>0⟩),
 (200007,⟨[(2,.ref 2 0),(3,.ref 3 0),(4,.ref 4 0),(5,.rowR 18),(6,.val tI),(8,.val (.int .u64)),(20,.val (.slice (.int .u32))),(21,.val tI),(22,.val tI)],[(2,oG),(3,oG),(4,CB)],[.rowC 18 132 (.int .u32)],fun _=>0⟩)]
def mj:ax:=⟨[.val eS,.val eS],[.val eS],fun x=>mm x.1 x.2.1⟩
noncomputable def FR:Cx:=⟨tpr,[(91,oV)],[]⟩
theorem E6:aO FR Dq none Tryz.f89 mj:=by intro x;kernel_rfl
theorem xM:aq tpr 89:=ak Tryz.func89 rfl (by decide)
theorem xZ:aD tpr 89 mj:=aG E6 (.cons yt yp (.nil _)) aH Tryz.func89
def IL:List (Nat×Ann):=[(3,⟨[(2,.ref 2 0),(3,.ref 3 0),(5,.val tI),(6,.val tI)],[(2,CB),(3,oG)],[],aT _⟩),
 (200003,⟨[(2,.ref 2 0),(3,.ref 3 0)],[(2,CB),(3,oG)],[],fun _=>0⟩)]
def wD:ax:=⟨[.val tI],[.val eS],fun x=>xk x.1⟩
noncomputable def LR:Cx:=⟨tpr,[(88,xg),(89,mj)],[]⟩
theorem Kj:aO LR IL none Tryz.f90 wD:=by intro x;kernel_rfl
theorem Mn:aq tpr 90:=ak Tryz.func90 rfl (by decide)
theorem MK:aD tpr 90 wD:=aG Kj (.cons Iu Iq (.cons xZ xM (.nil _))) aH Tryz.func90
def tL:ax:=⟨[.val bK,.val tI],[.val eS],fun x=>jt x.1 x.2.1⟩
noncomputable def IS:Cx:=⟨tpr,[(88,xg),(89,mj),(90,wD)],[]⟩
theorem HN:aO IS [] none Tryz.f58 tL:=by intro x;kernel_rfl
theorem I9:aq tpr 58:=ak Tryz.func58 rfl (by decide)
theorem Jj:aD tpr 58 tL:=aG HN (.cons Iu Iq (.cons xZ xM (.cons MK Mn (.nil _)))) aH Tryz.func58
def IM:List (Nat×Ann):=[(6,⟨[(1,.val (.slice (.int .u32))),(5,.own 132 (.int .u32)),(6,.val (.int .u64)),(20,.val (.slice (.int .u32))),(21,.val tI),(22,.val tI)],[],[],aT _⟩),
 (100002,⟨[(0,.val (.slice (.int .u32))),(1,.val (.slice (.int .u32)))],[],[],fun _=>0⟩),
 (100010,⟨[(1,.val (.slice (.int .u32))),(5,.own 132 (.int .u32)),(6,.val (.int .u64)),(20,.val (.slice (.int .u32))),(21,.val tI),(22,.val tI)],[],[],fun _=>0⟩),
 (200006,⟨[(5,.own 132 (.int .u32)),(6,.val (.int .u64))],[],[],fun _=>0⟩)]
def wE:ax:=⟨[.val (.slice (.int .u32)),.val (.slice (.int .u32))],[.val (.slice (.int .u32))],fun x=>Cn x.1 x.2.1⟩
noncomputable def LS:Cx:=⟨tpr,[],[]⟩
theorem Kk:aO LS IM none Tryz.f92 wE:=by intro x;kernel_rfl
theorem Mo:aq tpr 92:=ak Tryz.func92 rfl (by decide)
theorem ML:aD tpr 92 wE:=aG Kk (.nil _) aH Tryz.func92
def Fw:List (Nat×Ann):=[(4,⟨[(0,.val (.slice (.int .u32))),(1,.val (.slice (.int .u32))),(5,.val tI)],[],[],aT _⟩),
 (200004,⟨[],[],[],fun _=>0⟩)]
def tQ:ax:=⟨[.val (.slice (.int .u32)),.val (.slice (.int .u32))],[.val tI],fun x=>tc x.1 x.2.1⟩
noncomputable def IY:Cx:=⟨tpr,[],[]⟩
theorem HT:aO IY Fw none Tryz.f93 tQ:=by intro x;kernel_rfl
theorem Jg:aq tpr 93:=ak Tryz.func93 rfl (by decide)
theorem Jq:aD tpr 93 tQ:=aG HT (.nil _) aH Tryz.func93
def JU:List (Nat×Ann):=[(4,⟨[(1,.val (.slice (.int .u32))),(5,.own 132 (.int .u32)),(6,.val (.int .u64)),(13,.val (.slice (.int .u32))),(14,.val tI),(15,.val tI)],[],[],aT _⟩),
 (100008,⟨[(1,.val (.slice (.int .u32))),(5,.own 132 (.int .u32)),(9,.val (.int .u64)),(13,.val (.slice (.int .u32))),(14,.val tI),(15,.val tI)],[],[],fun _=>0⟩),
 (200004,⟨[(5,.own 132 (.int .u32))],[],[],fun _=>0⟩)]
def yK:ax:=⟨[.val (.slice (.int .u32)),.val (.slice (.int .u32))],[.val (.slice (.int .u32))],fun x=>vn x.1 x.2.1⟩
noncomputable def Oq:Cx:=⟨tpr,[(140,oy)],[]⟩
theorem L8:aO Oq JU none Tryz.f94 yK:=by intro x;kernel_rfl
theorem OP:aq tpr 94:=ak Tryz.func94 rfl (by decide)
theorem O3:aD tpr 94 yK:=aG L8 (.cons Aj Ac (.nil _)) aH Tryz.func94
def rO:ax:=⟨[.val eS,.val eS],[.val eS],fun x=>nD x.1 x.2.1⟩
noncomputable def HM:Cx:=⟨tpr,[(91,oV),(92,wE),(93,tQ),(94,yK)],[]⟩
theorem FW:aO HM [] none Tryz.f59 rO:=by intro x;kernel_rfl
theorem HZ:aq tpr 59:=ak Tryz.func59 rfl (by decide)
theorem Ia:aD tpr 59 rO:=aG FW (.cons yt yp (.cons ML Mo (.cons Jq Jg (.cons O3 OP (.nil _))))) aH Tryz.func59
def Fv:List (Nat×Ann):=[(5,⟨[(1,.val tI),(2,.ref 2 0),(6,.val (.int .u64)),(14,.val (.slice (.int .u32))),(15,.val tI),(16,.val tI)],[(2,oG)],[],aT _⟩),
 (200005,⟨[(1,.val tI),(2,.ref 2 0),(6,.val (.int .u64))],[(2,oG)],[],fun _=>0⟩)]
def tP:ax:=⟨[.val eS,.val tI],[.val tI,.val .bool],fun x=>s9 x.1 x.2.1⟩
noncomputable def IX:Cx:=⟨tpr,[],[]⟩
theorem HS:aO IX Fv none Tryz.f87 tP:=by intro x;kernel_rfl
theorem Jf:aq tpr 87:=ak Tryz.func87 rfl (by decide)
theorem Jp:aD tpr 87 tP:=aG HS (.nil _) aH Tryz.func87
def wm:ax:=⟨[.val eS,.val tI],[.val bK,.val tI],fun x=>wQ x.1 x.2.1⟩
noncomputable def LH:Cx:=⟨tpr,[(87,tP)],[]⟩
theorem J9:aO LH [] none Tryz.f57 wm:=by intro x;kernel_rfl
theorem Me:aq tpr 57:=ak Tryz.func57 rfl (by decide)
theorem MB:aD tpr 57 wm:=aG J9 (.cons Jp Jf (.nil _)) aH Tryz.func57
def JL:List (Nat×Ann):=[(3,⟨[(0,.own 70 aL),(14,.val (.slice aL)),(15,.val tI),(16,.val tI)],[],[],aT _⟩),
 (200003,⟨[(0,.own 70 aL)],[],[],fun _=>0⟩)]
def yC:ax:=⟨[.val (.slice aL),.val (.slice aL)],[.val (.slice aL)],fun x=>zb x.1 x.2.1⟩
noncomputable def Od:Cx:=⟨tpr,[(39,eA),(54,cC),(56,iH),(57,wm),(58,tL),(59,rO)],[]⟩
theorem LX:aO Od JL none Tryz.f24 yC:=by intro x;kernel_rfl
theorem OH:aq tpr 24:=ak Tryz.func24 rfl (by decide)
theorem OV:aD tpr 24 yC:=aG LX (.cons mP mO (.cons jT jS (.cons nj nc (.cons MB Me (.cons Jj I9 (.cons Ia HZ (.nil _))))))) aH Tryz.func24
def Ft:List (Nat×Ann):=[(13,⟨[(1,.val .str),(2,.ref 2 0),(4,.ref 4 0),(7,.val tI),(9,.ref 9 0),(75,.val tI),(76,.val tI)],[(2,PV),(4,oH),(9,CC)],[.rowC 101648 42 aj],aT _⟩),
 (100011,⟨[(1,.val .str),(2,.ref 2 0),(4,.ref 4 0),(7,.val tI),(9,.ref 9 0)],[(2,PV),(4,oH),(9,CC)],[.rowC 101648 42 aj],fun _=>0⟩),
 (200013,⟨[(2,.ref 2 0),(4,.ref 4 0),(7,.val tI)],[(2,PV),(4,oH)],[.rowC 101648 42 aj],fun _=>0⟩),
 (300006,⟨[(40,.val .bool)],[],[],fun _=>0⟩),
 (300010,⟨[(58,.val .bool)],[],[],fun _=>0⟩)]
def tO:ax:=⟨[.val aX,.val .str],[.val aX,.val tI],fun x=>sF x.1 x.2.1⟩
noncomputable def IV:Cx:=⟨tpr,[(12,kg),(13,dM),(15,fJ),(16,er),(24,yC),(25,ja)],[]⟩
theorem HQ:aO IV Ft none Tryz.f7 tO:=by intro x;kernel_rfl
theorem Jd:aq tpr 7:=ak Tryz.func7 rfl (by decide)
theorem Jn:aD tpr 7 tO:=aG HQ (.cons uL uG (.cons gw gq (.cons mF mA (.cons jk ji (.cons OV OH (.cons nH nG (.nil _))))))) aH Tryz.func7
def N6:List (Nat×Ann):=[(5,⟨[(2,.ref 2 0),(6,.val tI),(7,.val tI)],[(2,J1)],[],aT _⟩),
 (200005,⟨[(2,.ref 2 0),(6,.val tI)],[(2,J1)],[],fun _=>0⟩)]
def Cj:ax:=⟨[.val bf,.val tI],[.val tI,.val .bool],fun x=>Ef x.1 x.2.1⟩
noncomputable def RY:Cx:=⟨tpr,[(141,xe),(145,AO)],[]⟩
theorem Qk:aO RY N6 none Tryz.f147 Cj:=by intro x;kernel_rfl
theorem Si:aq tpr 147:=ak Tryz.func147 rfl (by decide)
theorem Sz:aD tpr 147 Cj:=aG Qk (.cons It Ip (.cons Jo Je (.nil _))) aH Tryz.func147
def yJ:ax:=⟨[.val bf,.val tI],[.val bK,.val tI],fun x=>Eh x.1 x.2.1⟩
noncomputable def On:Cx:=⟨tpr,[(147,Cj)],[]⟩
theorem L6:aO On [] none Tryz.f97 yJ:=by intro x;kernel_rfl
theorem OO:aq tpr 97:=ak Tryz.func97 rfl (by decide)
theorem O2:aD tpr 97 yJ:=aG L6 (.cons Sz Si (.nil _)) aH Tryz.func97
def RI:List (Nat×Ann):=[(5,⟨[(0,.val (.slice bK)),(2,.ref 2 0),(4,.val tI),(14,.val (.slice bK)),(15,.val tI),(16,.val tI)],[(2,[.val tI,.val tI])],[],aT _⟩),
 (13,⟨[(2,.ref 2 0),(4,.val tI),(7,.ref 7 0),(29,.val (.slice bK)),(30,.val tI),(31,.val tI)],[(2,[.val tI,.val tI]),(7,J1)],[],aT _⟩),
 (200005,⟨[(0,.val (.slice bK)),(2,.ref 2 0),(4,.val tI)],[(2,[.val tI,.val tI])],[],fun _=>0⟩),
 (200013,⟨[(2,.ref 2 0),(4,.val tI),(7,.ref 7 0)],[(2,[.val tI,.val tI]),(7,J1)],[],fun _=>0⟩)]
def GV:ax:=⟨[.val (.slice bK)],[.val bK,.val tI],fun x=>K9 x.1⟩
noncomputable def Vb:Cx:=⟨tpr,[(80,mh),(95,zo),(96,En),(97,yJ)],[]⟩
theorem T4:aO Vb RI none Tryz.f61 GV:=by intro x;kernel_rfl
theorem Vq:aq tpr 61:=ak Tryz.func61 rfl (by decide)
theorem VS:aD tpr 61 GV:=aG T4 (.cons xU xH (.cons KY KB (.cons Ra QF (.cons O2 OO (.nil _))))) aH Tryz.func61
def JR:List (Nat×Ann):=[(3,⟨[(5,.own 70 aL),(13,.val (.slice aL)),(14,.val tI),(15,.val tI)],[],[],aT _⟩),
 (6,⟨[(5,.own 70 aL),(7,.ref 7 0),(8,.val tI),(13,.val (.slice aL)),(14,.val tI),(15,.val tI)],[(7,[.val .str,.val .str,.val .str,.val tI,.val tI])],[],aT _⟩),
 (200003,⟨[(5,.own 70 aL)],[],[],fun _=>0⟩),
 (200006,⟨[(5,.own 70 aL),(7,.ref 7 0),(8,.val tI),(13,.val (.slice aL)),(14,.val tI),(15,.val tI)],[(7,[.val .str,.val .str,.val .str,.val tI,.val tI])],[],fun _=>0⟩),
 (300006,⟨[(31,.val .bool)],[],[],fun _=>0⟩)]
def yI:ax:=⟨[.val (.slice aL),.val (.slice aL)],[.val (.slice aL)],fun x=>uZ x.1 x.2.1⟩
noncomputable def Ol:Cx:=⟨tpr,[(39,eA),(56,iH),(60,lg),(61,GV)],[]⟩
theorem L4:aO Ol JR none Tryz.f26 yI:=by intro x;kernel_rfl
theorem ON:aq tpr 26:=ak Tryz.func26 rfl (by decide)
theorem O1:aD tpr 26 yI:=aG L4 (.cons mP mO (.cons nj nc (.cons vC vz (.cons VS Vq (.nil _))))) aH Tryz.func26
def JN:List (Nat×Ann):=[(12,⟨[(1,.val .str),(4,.ref 4 0),(7,.val tI),(8,.ref 8 0),(9,.ref 9 0),(44,.val tI),(45,.val tI)],[(4,oH),(8,CC),(9,PW)],[.rowC 41 42 aj],aT _⟩),
 (100015,⟨[(1,.val .str),(4,.ref 4 0),(7,.val tI),(8,.ref 8 0),(9,.ref 9 0),(10,.val tI),(44,.val tI),(45,.val tI)],[(4,oH),(8,CC),(9,PW)],[.rowC 41 42 aj],fun _=>0⟩),
 (200012,⟨[(4,.ref 4 0),(7,.val tI),(9,.ref 9 0)],[(4,oH),(9,PW)],[.rowC 41 42 aj],fun _=>0⟩),
 (300008,⟨[(38,.val .bool)],[],[],fun _=>0⟩),
 (300016,⟨[(76,.val .bool)],[],[],fun _=>0⟩)]
def yE:ax:=⟨[.val aX,.val .str],[.val aX,.val tI],fun x=>zf x.1 x.2.1⟩
noncomputable def Of:Cx:=⟨tpr,[(17,iX),(18,ef),(25,ja),(26,yI)],[(22,QS)]⟩
theorem LZ:aO Of JN none Tryz.f8 yE:=by intro x;kernel_rfl
theorem OJ:aq tpr 8:=ak Tryz.func8 rfl (by decide)
theorem OX:aD tpr 8 yE:=aG LZ (.Xb VB VA (.cons qv qm (.cons gL gG (.cons nH nG (.cons O1 ON (.nil _)))))) aH Tryz.func8
def vp:List (Nat×Ann):=[(3,⟨[(0,.val (.slice (.slice aj))),(3,.val tI),(9,.val (.slice (.slice aj))),(10,.val tI),(11,.val tI)],[],[],aT _⟩),
 (11,⟨[(6,.own 42 aj),(25,.val (.slice (.slice aj))),(26,.val tI),(27,.val tI)],[],[],aT _⟩),
 (200003,⟨[(0,.val (.slice (.slice aj))),(3,.val tI)],[],[],fun _=>0⟩),
 (200011,⟨[(6,.own 42 aj)],[],[],fun _=>0⟩)]
def iZ:ax:=⟨[.val (.slice (.slice aj))],[.row 42 aj],fun x=>gR x.1⟩
noncomputable def xA:Cx:=⟨tpr,[(62,qb)],[]⟩
theorem vL:aO xA vp none Tryz.f27 iZ:=by intro x;kernel_rfl
theorem xJ:aq tpr 27:=ak Tryz.func27 rfl (by decide)
theorem xW:aD tpr 27 iZ:=aG vL (.cons za yX (.nil _)) aH Tryz.func27
def Fs:List (Nat×Ann):=[(2,⟨[(2,.ref 2 0),(3,.ref 3 0),(4,.ref 4 0),(15,.rowR 15),(16,.val tI),(17,.val tI)],[(2,qk),(3,qk),(4,oH)],[.rowC 15 24 aX],aT _⟩),
 (11,⟨[(2,.ref 2 0),(3,.ref 3 0),(4,.ref 4 0),(35,.val (.slice aj)),(36,.val tI),(37,.val tI)],[(2,qk),(3,qk),(4,oH)],[],aT _⟩),
 (200002,⟨[(2,.ref 2 0),(3,.ref 3 0),(4,.ref 4 0)],[(2,qk),(3,qk),(4,oH)],[],fun _=>0⟩),
 (200011,⟨[(2,.ref 2 0),(3,.ref 3 0),(4,.ref 4 0)],[(2,qk),(3,qk),(4,oH)],[],fun _=>0⟩)]
def tN:ax:=⟨[.val aX,.val aX],[.val aX,.val tI],fun x=>sE x.1 x.2.1⟩
noncomputable def IU:Cx:=⟨tpr,[(13,dM),(15,fJ),(16,er),(27,iZ),(28,mQ)],[]⟩
theorem HP:aO IU Fs none Tryz.f9 tN:=by intro x;kernel_rfl
theorem Jc:aq tpr 9:=ak Tryz.func9 rfl (by decide)
theorem Jm:aD tpr 9 tN:=aG HP (.cons gw gq (.cons mF mA (.cons jk ji (.cons xW xJ (.cons vw vu (.nil _)))))) aH Tryz.func9
def JQ:List (Nat×Ann):=[(2,⟨[(0,.val (.slice aj)),(3,.ref 3 0),(5,.val tI)],[(3,CC)],[],aT _⟩),
 (200002,⟨[(0,.val (.slice aj)),(3,.ref 3 0),(5,.val tI)],[(3,CC)],[],fun _=>0⟩),
 (300002,⟨[(19,.val .bool)],[],[],fun _=>0⟩)]
def yH:ax:=⟨[.val (.slice aj),.val aj],[.val (.slice aj)],fun x=>zi x.1 x.2.1⟩
noncomputable def Oj:Cx:=⟨tpr,[(38,fR),(66,nP)],[]⟩
theorem L3:aO Oj JQ none Tryz.f31 yH:=by intro x;kernel_rfl
theorem OM:aq tpr 31:=ak Tryz.func31 rfl (by decide)
theorem O0:aD tpr 31 yH:=aG L3 (.cons jA oJ (.cons xY xL (.nil _))) aH Tryz.func31
def JM:List (Nat×Ann):=[(11,⟨[(2,.ref 2 0),(4,.ref 4 0),(8,.ref 8 0),(31,.val (.slice aj)),(32,.val tI),(33,.val tI)],[(2,qk),(4,oH),(8,qk)],[],aT _⟩),
 (200011,⟨[(4,.ref 4 0),(8,.ref 8 0)],[(4,oH),(8,qk)],[],fun _=>0⟩)]
def yD:ax:=⟨[.val aX,.val aX],[.val aX,.val tI],fun x=>ze x.1 x.2.1⟩
noncomputable def Oe:Cx:=⟨tpr,[(17,iX),(18,ef),(31,yH)],[]⟩
theorem LY:aO Oe JM none Tryz.f10 yD:=by intro x;kernel_rfl
theorem OI:aq tpr 10:=ak Tryz.func10 rfl (by decide)
theorem OW:aD tpr 10 yD:=aG LY (.cons qv qm (.cons gL gG (.cons O0 OM (.nil _)))) aH Tryz.func10
def IJ:List (Nat×Ann):=[(5,⟨[(4,.val tI),(15,.val tI),(16,.val tI)],[],[],aT _⟩),
 (200005,⟨[(4,.val tI)],[],[],fun _=>0⟩)]
def wu:ax:=⟨[.val .str],[.val tI,.val .bool],fun x=>Ix x.1⟩
noncomputable def LL:Cx:=⟨tpr,[(111,qa)],[]⟩
theorem Ke:aO LL IJ none Tryz.f67 wu:=by intro x;kernel_rfl
theorem Mh:aq tpr 67:=ak Tryz.func67 rfl (by decide)
theorem ME:aD tpr 67 wu:=aG Ke (.cons Bs Bn (.nil _)) aH Tryz.func67
def Cr:List (Nat×Ann):=[(16,⟨[(0,.val tI),(1,.val .str),(49,.val tI)],[],[],aT _⟩),
 (200016,⟨[],[],[],fun _=>0⟩)]
def pM:ax:=⟨[.val tI,.val .str],[.val .str,.val tI],fun x=>zJ x.1 x.2.1⟩
noncomputable def EV:Cx:=⟨tpr,[(69,qc),(113,oq),(114,AH),(115,vg),(116,AI),(117,tM),(118,mg)],[]⟩
theorem Dw:aO EV Cr none Tryz.f70 pM:=by intro x;kernel_rfl
theorem E8:aq tpr 70:=ak Tryz.func70 rfl (by decide)
theorem Fb:aD tpr 70 pM:=aG Dw (.cons Bt Bo (.cons Ah Aa (.cons Jk Ja (.cons DX DI (.cons Jl Jb (.cons Ag z8 (.cons xS xG (.nil _)))))))) aH Tryz.func70
def rL:ax:=⟨[.val .str,.val tI],[.val .str,.val tI],fun x=>C2 x.1 x.2.1⟩
noncomputable def HK:Cx:=⟨tpr,[(67,wu),(68,kD),(69,qc),(70,pM),(71,rN)],[]⟩
theorem FU:aO HK [] none Tryz.f32 rL:=by intro x;kernel_rfl
theorem HW:aq tpr 32:=ak Tryz.func32 rfl (by decide)
theorem H7:aD tpr 32 rL:=aG FU (.cons ME Mh (.cons q8 qW (.cons Bt Bo (.cons Fb E8 (.cons H9 HY (.nil _)))))) aH Tryz.func32
def AK:ax:=⟨[],[.val .bool],fun x=>Gg ⟩
noncomputable def P3:Cx:=⟨tpr,[(32,rL)],[]⟩
theorem Ov:aO P3 [] none Tryz.f11 AK:=by intro x;kernel_rfl
theorem QB:aq tpr 11:=ak Tryz.func11 rfl (by decide)
theorem Q6:aD tpr 11 AK:=aG Ov (.cons H7 HW (.nil _)) aH Tryz.func11
def vo:List (Nat×Ann):=[(300011,⟨[(8,.val .bool)],[],[],fun _=>0⟩)]
def nO:ax:=⟨[.val aX,.val aX,.val .str,.val .str],[.val .bool],fun x=>gI x.1 x.2.1 x.2.2.1 x.2.2.2.1⟩
noncomputable def xw:Cx:=⟨tpr,[(4,vj),(5,AL),(6,Cf),(7,tO),(8,yE),(9,tN),(10,yD),(11,AK)],[]⟩
theorem vJ:aO xw vo none Tryz.f3 nO:=by intro x;kernel_rfl
theorem xT:aD tpr 3 nO:=aG vJ (.cons KX KA (.cons Q7 QC (.cons Sv Se (.cons Jn Jd (.cons OX OJ (.cons Jm Jc (.cons OW OI (.cons Q6 QB (.nil _))))))))) aH Tryz.func3
end Go.Proofs.SeatU
end
