/-
  Each function that the law reaches is as its plain model says, a further part. No condition.
-/
import Derived.Test.YtnamfglkolhhgadGreatDoorYw
set_option linter.all false
set_option maxRecDepth 100000
noncomputable section
namespace Go.Proofs.SeatU
open Go.Dn Go.Md Go.Proofs
def Qz:List CK:=[.val .bool,.own 146 (.int .u32)]
def gy:List CK:=[.val .bool,.own 3 tI]
def HT:List CK:=[.val .bool,.rowR 24]
def EM:List CK:=[.val .bool,.val (.slice (.int .u32))]
def nv:List CK:=[.val .bool,.val (.slice tI)]
def WL:List CK:=[.val .str,.val .str,.val tI,.val tI]
def nI:aA:=⟨[.val aY,.val tI],[.val bp],fun x=>iC x.1 x.2.1⟩
noncomputable def Pd:Cx:=⟨tpr,[(38,nj),(92,jJ),(93,xz)],[]⟩
theorem N1:aQ Pd [] none Tryz.f82 nI:=by intro x;kernel_rfl
theorem zn:ay tpr 82:=au Tryz.func82 rfl (by decide)
theorem zx:aF tpr 82 nI:=aH N1 (.cons uj uf (.cons oS oO (.cons IB Ip (.nil _)))) aI Tryz.func82
def Ls:List (Nat×Ann):=[(5,⟨[(1,.val tI),(2,.ref 2 0),(6,.val (.int .u64)),(14,.val (.slice (.int .u32))),(15,.val tI),(16,.val tI)],[(2,EM)],[],aO _⟩),
 (200005,⟨[(1,.val tI),(2,.ref 2 0),(6,.val (.int .u64))],[(2,EM)],[],fun _=>0⟩)]
def sS:aA:=⟨[.val bp,.val tI],[.val tI,.val .bool],fun x=>tW x.1 x.2.1⟩
noncomputable def Pj:Cx:=⟨tpr,[],[]⟩
theorem N6:aQ Pj Ls none Tryz.f83 sS:=by intro x;kernel_rfl
theorem EX:ay tpr 83:=au Tryz.func83 rfl (by decide)
theorem E6:aF tpr 83 sS:=aH N6 (.nil _) aI Tryz.func83
def mu:aA:=⟨[.val aY],[.val tI],fun x=>jH x.1⟩
noncomputable def H6:Cx:=⟨tpr,[(82,nI),(83,sS)],[]⟩
theorem Hg:aQ H6 [] none Tryz.f23 mu:=by intro x;kernel_rfl
theorem zV:ay tpr 23:=au Tryz.func23 rfl (by decide)
theorem z7:aF tpr 23 mu:=aH Hg (.cons zx zn (.cons E6 EX (.nil _))) aI Tryz.func23
def NK:List (Nat×Ann):=[(2,⟨[(1,.val (.slice az)),(4,.val tI),(5,.own 3 tI),(11,.val (.slice az)),(12,.val tI),(13,.val tI)],[],[],aO _⟩),
 (200002,⟨[(4,.val tI),(5,.own 3 tI)],[],[],fun _=>0⟩)]
def Br:aA:=⟨[.val (.slice az),.val (.slice az)],[.val tI,.row 3 tI,.val tI],fun x=>vE x.1 x.2.1⟩
noncomputable def QI:Cx:=⟨tpr,[(23,mu),(80,kQ)],[]⟩
theorem Pv:aQ QI NK none Tryz.f21 Br:=by intro x;kernel_rfl
theorem Rr:ay tpr 21:=au Tryz.func21 rfl (by decide)
theorem RQ:aF tpr 21 Br:=aH Pv (.cons z7 zV (.cons BI BF (.nil _))) aI Tryz.func21
def rL:aA:=⟨[.val .str,.val tI,.val tI],[.val tI],fun x=>pe x.1 x.2.1 x.2.2.1⟩
noncomputable def HY:Cx:=⟨tpr,[(4,iK),(12,xu)],[]⟩
theorem He:aQ HY [] none Tryz.f22 rL:=by intro x;kernel_rfl
theorem Ik:ay tpr 22:=au Tryz.func22 rfl (by decide)
theorem Ix:aF tpr 22 rL:=aH He (.cons mH mF (.cons Iz Im (.nil _))) aI Tryz.func22
def SE:List (Nat×Ann):=[(6,⟨[(1,.val (.slice (.int .u32))),(5,.own 146 (.int .u32)),(6,.val (.int .u64)),(20,.val (.slice (.int .u32))),(21,.val tI),(22,.val tI)],[],[],aO _⟩),
 (100002,⟨[(0,.val (.slice (.int .u32))),(1,.val (.slice (.int .u32)))],[],[],fun _=>0⟩),
 (100010,⟨[(1,.val (.slice (.int .u32))),(5,.own 146 (.int .u32)),(6,.val (.int .u64)),(20,.val (.slice (.int .u32))),(21,.val tI),(22,.val tI)],[],[],fun _=>0⟩),
 (200006,⟨[(5,.own 146 (.int .u32)),(6,.val (.int .u64))],[],[],fun _=>0⟩)]
def FM:aA:=⟨[.val (.slice (.int .u32)),.val (.slice (.int .u32))],[.row 146 (.int .u32)],fun x=>DK x.1 x.2.1⟩
noncomputable def W5:Cx:=⟨tpr,[],[]⟩
theorem VR:aQ W5 SE none Tryz.f99 FM:=by intro x;kernel_rfl
theorem XB:ay tpr 99:=au Tryz.func99 rfl (by decide)
theorem Yb:aF tpr 99 FM:=aH VR (.nil _) aI Tryz.func99
def O8:List (Nat×Ann):=[(6,⟨[(1,.val (.slice (.int .u32))),(5,.own 146 (.int .u32)),(6,.val (.int .u64)),(20,.val (.slice (.int .u32))),(21,.val tI),(22,.val tI)],[],[],aO _⟩),
 (100002,⟨[(0,.val (.slice (.int .u32))),(1,.val (.slice (.int .u32)))],[],[],fun _=>0⟩),
 (100010,⟨[(1,.val (.slice (.int .u32))),(5,.own 146 (.int .u32)),(6,.val (.int .u64)),(20,.val (.slice (.int .u32))),(21,.val tI),(22,.val tI)],[],[],fun _=>0⟩),
 (200006,⟨[(5,.own 146 (.int .u32)),(6,.val (.int .u64))],[],[],fun _=>0⟩)]
def Cn:aA:=⟨[.val (.slice (.int .u32)),.val (.slice (.int .u32))],[.val (.slice (.int .u32))],fun x=>HF x.1 x.2.1⟩
noncomputable def S7:Cx:=⟨tpr,[],[]⟩
theorem Q7:aQ S7 O8 none Tryz.f99 Cn:=by intro x;kernel_rfl
theorem TA:ay tpr 99:=au Tryz.func99 rfl (by decide)
theorem TZ:aF tpr 99 Cn:=aH Q7 (.nil _) aI Tryz.func99
def Lt:List (Nat×Ann):=[(4,⟨[(0,.val (.slice (.int .u32))),(1,.val (.slice (.int .u32))),(5,.val tI)],[],[],aO _⟩),
 (200004,⟨[],[],[],fun _=>0⟩)]
def sU:aA:=⟨[.val (.slice (.int .u32)),.val (.slice (.int .u32))],[.val tI],fun x=>tX x.1 x.2.1⟩
noncomputable def Pk:Cx:=⟨tpr,[],[]⟩
theorem N7:aQ Pk Lt none Tryz.f100 sU:=by intro x;kernel_rfl
theorem EY:ay tpr 100:=au Tryz.func100 rfl (by decide)
theorem E7:aF tpr 100 sU:=aH N7 (.nil _) aI Tryz.func100
def Qr:List (Nat×Ann):=[(4,⟨[(1,.val (.slice (.int .u32))),(5,.own 146 (.int .u32)),(6,.val (.int .u64)),(13,.val (.slice (.int .u32))),(14,.val tI),(15,.val tI)],[],[],aO _⟩),
 (100008,⟨[(1,.val (.slice (.int .u32))),(5,.own 146 (.int .u32)),(9,.val (.int .u64)),(13,.val (.slice (.int .u32))),(14,.val tI),(15,.val tI)],[],[],fun _=>0⟩),
 (200004,⟨[(5,.own 146 (.int .u32))],[],[],fun _=>0⟩)]
def za:aA:=⟨[.val (.slice (.int .u32)),.val (.slice (.int .u32))],[.val (.slice (.int .u32))],fun x=>xC x.1 x.2.1⟩
noncomputable def VA:Cx:=⟨tpr,[(156,nJ)],[]⟩
theorem Ti:aQ VA Qr none Tryz.f101 za:=by intro x;kernel_rfl
theorem Kz:ay tpr 101:=au Tryz.func101 rfl (by decide)
theorem KD:aF tpr 101 za:=aH Ti (.cons zz zq (.nil _)) aI Tryz.func101
def NN:List (Nat×Ann):=[(4,⟨[(2,.ref 2 0),(3,.ref 3 0),(4,.ref 4 0),(5,.ref 5 0),(6,.rowR 12),(7,.val (.slice (.int .u32))),(8,.val tI)],[(2,EM),(3,EM),(4,Qz),(5,Qz)],[.rowC 12 146 (.int .u32)],aO _⟩),
 (200004,⟨[(4,.ref 4 0),(5,.ref 5 0),(6,.rowR 12),(7,.val (.slice (.int .u32)))],[(4,Qz),(5,Qz)],[.rowC 12 146 (.int .u32)],fun _=>0⟩)]
def Bx:aA:=⟨[.val bp,.val bp],[.val bp,.val bp],fun x=>wA x.1 x.2.1⟩
noncomputable def QL:Cx:=⟨tpr,[(98,mC),(99,FM),(100,sU),(101,za),(156,nJ)],[]⟩
theorem Py:aQ QL NN none Tryz.f146 Bx:=by intro x;kernel_rfl
theorem Rv:ay tpr 146:=au Tryz.func146 rfl (by decide)
theorem RU:aF tpr 146 Bx:=aH Py (.cons tw tj (.cons Yb XB (.cons E7 EY (.cons KD Kz (.cons zz zq (.nil _)))))) aI Tryz.func146
def qO:aA:=⟨[.val bp],[.val tI],fun x=>lD x.1⟩
noncomputable def NY:Cx:=⟨tpr,[],[]⟩
theorem L8:aQ NY [] none Tryz.f97 qO:=by intro x;kernel_rfl
theorem D5:ay tpr 97:=au Tryz.func97 rfl (by decide)
theorem D8:aF tpr 97 qO:=aH L8 (.nil _) aI Tryz.func97
def pW:aA:=⟨[.val bp],[.val bp],fun x=>pX x.1⟩
noncomputable def LS:Cx:=⟨tpr,[(98,mC)],[]⟩
theorem KX:aQ LS [] none Tryz.f147 pW:=by intro x;kernel_rfl
theorem Df:ay tpr 147:=au Tryz.func147 rfl (by decide)
theorem Dx:aF tpr 147 pW:=aH KX (.cons tw tj (.nil _)) aI Tryz.func147
def Ce:aA:=⟨[.val bp,.val tI],[.val aY,.val tI],fun x=>xW x.1 x.2.1⟩
noncomputable def SK:Cx:=⟨tpr,[(83,sS)],[]⟩
theorem QO:aQ SK [] none Tryz.f148 Ce:=by intro x;kernel_rfl
theorem Tn:ay tpr 148:=au Tryz.func148 rfl (by decide)
theorem TP:aF tpr 148 Ce:=aH QO (.cons E6 EX (.nil _)) aI Tryz.func148
def Ln:List (Nat×Ann):=[(2,⟨[(1,.val tI),(2,.ref 2 0),(4,.ref 4 0),(6,.ref 6 0)],[(2,EM),(4,[.val tI,.val tI]),(6,EM)],[],aO _⟩),
 (200002,⟨[(1,.val tI),(2,.ref 2 0),(4,.ref 4 0)],[(2,EM),(4,[.val tI,.val tI])],[],fun _=>0⟩)]
def zF:aA:=⟨[.val bp,.val tI],[.val aY,.val tI],fun x=>yq x.1 x.2.1⟩
noncomputable def Pc:Cx:=⟨tpr,[(38,nj),(97,qO),(146,Bx),(147,pW),(148,Ce)],[]⟩
theorem NZ:aQ Pc Ln none Tryz.f84 zF:=by intro x;kernel_rfl
theorem PC:ay tpr 84:=au Tryz.func84 rfl (by decide)
theorem PO:aF tpr 84 zF:=aH NZ (.cons uj uf (.cons D8 D5 (.cons RU Rv (.cons Dx Df (.cons TP Tn (.nil _)))))) aI Tryz.func84
def zJ:aA:=⟨[.val tI],[.val aY],fun x=>yI x.1⟩
noncomputable def Ph:Cx:=⟨tpr,[(38,nj),(84,zF)],[]⟩
theorem N5:aQ Ph [] none Tryz.f24 zJ:=by intro x;kernel_rfl
theorem PI:ay tpr 24:=au Tryz.func24 rfl (by decide)
theorem PV:aF tpr 24 zJ:=aH N5 (.cons uj uf (.cons PO PC (.nil _))) aI Tryz.func24
def O2:List (Nat×Ann):=[(4,⟨[(0,.val (.slice az)),(1,.val (.slice az)),(2,.val .str),(3,.val tI),(34,.rowR 34),(35,.val tI),(36,.val tI)],[],[.rowC 34 22 (.slice az)],aO _⟩),
 (20,⟨[(2,.val .str),(3,.val tI),(14,.rowR 111952),(17,.own 57 an),(65,.val (.slice az)),(66,.val tI),(67,.val tI)],[],[.rowC 111952 3 tI],aO _⟩),
 (23,⟨[(2,.val .str),(3,.val tI),(14,.rowR 111952),(17,.own 57 an),(18,.val tI),(19,.ref 19 0),(20,.val tI),(65,.val (.slice az)),(66,.val tI),(67,.val tI)],[(19,WL)],[.rowC 111952 3 tI],aO _⟩),
 (200004,⟨[(0,.val (.slice az)),(1,.val (.slice az)),(2,.val .str),(3,.val tI)],[],[],fun _=>0⟩),
 (200020,⟨[(17,.own 57 an)],[],[],fun _=>0⟩),
 (200023,⟨[(2,.val .str),(3,.val tI),(14,.rowR 111952),(17,.own 57 an),(65,.val (.slice az)),(66,.val tI),(67,.val tI)],[],[.rowC 111952 3 tI],fun _=>0⟩)]
def Ch:aA:=⟨[.val (.slice az),.val (.slice az),.val .str,.val tI],[.row 57 an,.val tI],fun x=>CE x.1 x.2.1 x.2.2.1 x.2.2.2.1⟩
noncomputable def SO:Cx:=⟨tpr,[(4,iK),(20,sN),(21,Br),(22,rL),(23,mu),(24,zJ)],[]⟩
theorem QV:aQ SO O2 none Tryz.f6 Ch:=by intro x;kernel_rfl
theorem Tq:ay tpr 6:=au Tryz.func6 rfl (by decide)
theorem TS:aF tpr 6 Ch:=aH QV (.cons mH mF (.cons JL Jq (.cons RQ Rr (.cons Ix Ik (.cons z7 zV (.cons PV PI (.nil _))))))) aI Tryz.func6
def SC:List (Nat×Ann):=[(4,⟨[(0,.val .str),(23,.val tI),(24,.val tI)],[],[],aO _⟩),
 (200004,⟨[],[],[],fun _=>0⟩)]
def FK:aA:=⟨[.val .str],[.val .bool],fun x=>MT x.1⟩
noncomputable def W2:Cx:=⟨tpr,[],[]⟩
theorem VO:aQ W2 SC none Tryz.f149 FK:=by intro x;kernel_rfl
theorem Xy:ay tpr 149:=au Tryz.func149 rfl (by decide)
theorem X8:aF tpr 149 FK:=aH VO (.nil _) aI Tryz.func149
def rN:aA:=⟨[.val .str],[.val .bool],fun x=>kL x.1⟩
noncomputable def WY:Cx:=⟨tpr,[(149,FK)],[]⟩
theorem VL:aQ WY [] none Tryz.f85 rN:=by intro x;kernel_rfl
theorem Ay:ay tpr 85:=au Tryz.func85 rfl (by decide)
theorem AH:aF tpr 85 rN:=aH VL (.cons X8 Xy (.nil _)) aI Tryz.func85
def pU:aA:=⟨[.val aY],[.val tI],fun x=>jZ x.1⟩
noncomputable def LR:Cx:=⟨tpr,[(111,rO)],[]⟩
theorem KW:aQ LR [] none Tryz.f47 pU:=by intro x;kernel_rfl
theorem Db:ay tpr 47:=au Tryz.func47 rfl (by decide)
theorem Dt:aF tpr 47 pU:=aH KW (.cons AI Az (.nil _)) aI Tryz.func47
def aay:List (Nat×Ann):=[(2,⟨[(0,.val tI),(2,.ref 2 0),(3,.ref 3 0)],[(2,gy),(3,gy)],[],aO _⟩),
 (200002,⟨[(2,.ref 2 0),(3,.ref 3 0)],[(2,gy),(3,gy)],[],fun _=>0⟩)]
def FJ:aA:=⟨[.val tI],[.val aG],fun x=>GK x.1⟩
noncomputable def adz:Cx:=⟨tpr,[],[]⟩
theorem abV:aQ adz aay none Tryz.f115 FJ:=by intro x;kernel_rfl
theorem PJ:ay tpr 115:=au Tryz.func115 rfl (by decide)
theorem PW:aF tpr 115 FJ:=aH abV (.nil _) aI Tryz.func115
def Qq:List (Nat×Ann):=[(1,⟨[(1,.ref 1 0),(2,.ref 2 0)],[(1,nv),(2,gy)],[],aO _⟩),
 (200001,⟨[(1,.ref 1 0),(2,.ref 2 0)],[(1,nv),(2,gy)],[],fun _=>0⟩)]
def y8:aA:=⟨[.val aG],[.val aG],fun x=>pQ x.1⟩
noncomputable def Vz:Cx:=⟨tpr,[],[]⟩
theorem Th:aQ Vz Qq none Tryz.f175 y8:=by intro x;kernel_rfl
theorem Ky:ay tpr 175:=au Tryz.func175 rfl (by decide)
theorem KC:aF tpr 175 y8:=aH Th (.nil _) aI Tryz.func175
def Qp:List (Nat×Ann):=[(3,⟨[(3,.ref 3 0),(4,.ref 4 0),(5,.ref 5 0),(27,.val (.slice tI)),(28,.val tI),(29,.val tI)],[(3,nv),(4,gy),(5,HT)],[.rowC 24 3 tI],aO _⟩),
 (6,⟨[(3,.ref 3 0),(4,.ref 4 0),(5,.ref 5 0),(6,.val tI),(7,.val tI),(27,.val (.slice tI)),(28,.val tI),(29,.val tI),(35,.val (.slice tI)),(36,.val tI),(37,.val tI)],[(3,nv),(4,gy),(5,HT)],[.rowC 24 3 tI],aO _⟩),
 (14,⟨[(4,.ref 4 0),(5,.ref 5 0),(86,.val tI),(87,.val tI)],[(4,gy),(5,HT)],[.rowC 24 3 tI],aO _⟩),
 (200003,⟨[(4,.ref 4 0),(5,.ref 5 0)],[(4,gy),(5,HT)],[.rowC 24 3 tI],fun _=>0⟩),
 (200006,⟨[(3,.ref 3 0),(4,.ref 4 0),(5,.ref 5 0),(27,.val (.slice tI)),(28,.val tI),(29,.val tI)],[(3,nv),(4,gy),(5,HT)],[.rowC 24 3 tI],fun _=>0⟩),
 (200014,⟨[(4,.ref 4 0),(5,.ref 5 0)],[(4,gy),(5,HT)],[.rowC 24 3 tI],fun _=>0⟩)]
def tV:aA:=⟨[.val aG,.val aG],[.val aG],fun x=>pP x.1 x.2.1⟩
noncomputable def Vy:Cx:=⟨tpr,[(175,y8)],[]⟩
theorem Tg:aQ Vy Qp none Tryz.f114 tV:=by intro x;kernel_rfl
theorem DR:ay tpr 114:=au Tryz.func114 rfl (by decide)
theorem DT:aF tpr 114 tV:=aH Tg (.cons KC Ky (.nil _)) aI Tryz.func114
def Vl:List (Nat×Ann):=[(3,⟨[(2,.ref 2 0),(3,.ref 3 0),(5,.val tI),(6,.val tI)],[(2,gy),(3,nv)],[],aO _⟩),
 (200003,⟨[(2,.ref 2 0),(3,.ref 3 0)],[(2,gy),(3,nv)],[],fun _=>0⟩)]
def CX:aA:=⟨[.val tI],[.val aG],fun x=>B8 x.1⟩
noncomputable def YY:Cx:=⟨tpr,[(114,tV),(115,FJ)],[]⟩
theorem Xb:aQ YY Vl none Tryz.f116 CX:=by intro x;kernel_rfl
theorem OF:ay tpr 116:=au Tryz.func116 rfl (by decide)
theorem OJ:aF tpr 116 CX:=aH Xb (.cons DT DR (.cons PW PJ (.nil _))) aI Tryz.func116
def Kc:aA:=⟨[.val aY,.val tI],[.val aG],fun x=>CI x.1 x.2.1⟩
noncomputable def ady:Cx:=⟨tpr,[(114,tV),(115,FJ),(116,CX)],[]⟩
theorem abU:aQ ady [] none Tryz.f119 Kc:=by intro x;kernel_rfl
theorem Xw:ay tpr 119:=au Tryz.func119 rfl (by decide)
theorem X6:aF tpr 119 Kc:=aH abU (.cons DT DR (.cons PW PJ (.cons OJ OF (.nil _)))) aI Tryz.func119
def HB:aA:=⟨[.val aG],[.val aG],fun x=>J5 x.1⟩
noncomputable def YX:Cx:=⟨tpr,[],[]⟩
theorem Xa:aQ YX [] none Tryz.f118 HB:=by intro x;kernel_rfl
theorem Ze:ay tpr 118:=au Tryz.func118 rfl (by decide)
theorem Zp:aF tpr 118 HB:=aH Xa (.nil _) aI Tryz.func118
def Vm:List (Nat×Ann):=[(4,⟨[(0,.val (.slice tI)),(1,.val (.slice tI)),(5,.val tI)],[],[],aO _⟩),
 (200004,⟨[],[],[],fun _=>0⟩)]
def HE:aA:=⟨[.val (.slice tI),.val (.slice tI)],[.val tI],fun x=>J6 x.1 x.2.1⟩
noncomputable def Y1:Cx:=⟨tpr,[],[]⟩
theorem Xe:aQ Y1 Vm none Tryz.f173 HE:=by intro x;kernel_rfl
theorem Zh:ay tpr 173:=au Tryz.func173 rfl (by decide)
theorem Zs:aF tpr 173 HE:=aH Xe (.nil _) aI Tryz.func173
def HC:aA:=⟨[.val (.slice tI),.val tI],[.val tI],fun x=>B9 x.1 x.2.1⟩
noncomputable def YZ:Cx:=⟨tpr,[],[]⟩
theorem Xc:aQ YZ [] none Tryz.f174 HC:=by intro x;kernel_rfl
theorem Zf:ay tpr 174:=au Tryz.func174 rfl (by decide)
theorem Zq:aF tpr 174 HC:=aH Xc (.nil _) aI Tryz.func174
def Wz:List (Nat×Ann):=[(7,⟨[(2,.ref 2 0),(3,.ref 3 0),(4,.ref 4 0),(5,.ref 5 0),(6,.val tI),(31,.val tI),(32,.val tI)],[(2,nv),(3,nv),(4,gy),(5,gy)],[],aO _⟩),
 (19,⟨[(2,.ref 2 0),(3,.ref 3 0),(4,.ref 4 0),(9,.ref 9 0),(10,.val tI),(70,.val tI),(71,.val tI)],[(2,nv),(3,nv),(4,gy),(9,gy)],[],aO _⟩),
 (100003,⟨[(2,.ref 2 0),(3,.ref 3 0),(4,.ref 4 0)],[(2,nv),(3,nv),(4,gy)],[],fun _=>0⟩),
 (100012,⟨[(2,.ref 2 0),(3,.ref 3 0),(4,.ref 4 0),(5,.ref 5 0),(6,.val tI),(8,.val tI),(31,.val tI),(32,.val tI)],[(2,nv),(3,nv),(4,gy),(5,gy)],[],fun _=>0⟩),
 (200007,⟨[(4,.ref 4 0),(5,.ref 5 0)],[(4,gy),(5,gy)],[],fun _=>0⟩),
 (200019,⟨[(4,.ref 4 0),(9,.ref 9 0)],[(4,gy),(9,gy)],[],fun _=>0⟩)]
def Bu:aA:=⟨[.val aG,.val aG],[.val aG],fun x=>Ac x.1 x.2.1⟩
noncomputable def aaF:Cx:=⟨tpr,[(173,HE),(174,HC),(175,y8)],[]⟩
theorem Y4:aQ aaF Wz none Tryz.f112 Bu:=by intro x;kernel_rfl
theorem Ju:ay tpr 112:=au Tryz.func112 rfl (by decide)
theorem JP:aF tpr 112 Bu:=aH Y4 (.cons Zs Zh (.cons Zq Zf (.cons KC Ky (.nil _)))) aI Tryz.func112
def Ke:aA:=⟨[.val aG],[.val tI],fun x=>NA x.1⟩
noncomputable def aaG:Cx:=⟨tpr,[],[]⟩
theorem Y5:aQ aaG [] none Tryz.f117 Ke:=by intro x;kernel_rfl
theorem aaO:ay tpr 117:=au Tryz.func117 rfl (by decide)
theorem aa6:aF tpr 117 Ke:=aH Y5 (.nil _) aI Tryz.func117
def Ag:aA:=⟨[.val aG,.val aG],[.val tI],fun x=>A9 x.1 x.2.1⟩
noncomputable def abT:Cx:=⟨tpr,[(112,Bu),(117,Ke),(118,HB)],[]⟩
theorem aaI:aQ abT [] none Tryz.f49 Ag:=by intro x;kernel_rfl
theorem Gp:ay tpr 49:=au Tryz.func49 rfl (by decide)
theorem Gz:aF tpr 49 Ag:=aH aaI (.cons JP Ju (.cons aa6 aaO (.cons Zp Ze (.nil _)))) aI Tryz.func49
def Kb:aA:=⟨[.val aY,.val aY],[.val tI],fun x=>Nz x.1 x.2.1⟩
noncomputable def aaE:Cx:=⟨tpr,[(49,Ag),(119,Kc)],[]⟩
theorem Y3:aQ aaE [] none Tryz.f150 Kb:=by intro x;kernel_rfl
theorem aaN:ay tpr 150:=au Tryz.func150 rfl (by decide)
theorem aa5:aF tpr 150 Kb:=aH Y3 (.cons Gz Gp (.cons X6 Xw (.nil _))) aI Tryz.func150
def oC:aA:=⟨[.val aY,.val .bool],[.val .bool],fun x=>iF x.1 x.2.1⟩
noncomputable def Vu:Cx:=⟨tpr,[(47,pU),(150,Kb)],[]⟩
theorem Tc:aQ Vu [] none Tryz.f86 oC:=by intro x;kernel_rfl
theorem yC:ay tpr 86:=au Tryz.func86 rfl (by decide)
theorem yH:aF tpr 86 oC:=aH Tc (.cons Dt Db (.cons aa5 aaN (.nil _))) aI Tryz.func86
def KK:List (Nat×Ann):=[(2,⟨[(0,.val (.slice az)),(7,.val (.slice az)),(8,.val tI),(9,.val tI)],[],[],aO _⟩),
 (7,⟨[(0,.val (.slice az)),(4,.ref 4 0),(7,.val (.slice az)),(8,.val tI),(9,.val tI),(26,.val (.slice az)),(27,.val tI),(28,.val tI)],[(4,WL)],[],aO _⟩),
 (200002,⟨[],[],[],fun _=>0⟩),
 (200007,⟨[(0,.val (.slice az)),(4,.ref 4 0),(7,.val (.slice az)),(8,.val tI),(9,.val tI)],[(4,WL)],[],fun _=>0⟩),
 (300009,⟨[(43,.val .bool)],[],[],fun _=>0⟩)]
def xQ:aA:=⟨[.val (.slice az)],[.val tI],fun x=>ry x.1⟩
noncomputable def NV:Cx:=⟨tpr,[(85,rN),(86,oC)],[]⟩
theorem L5:aQ NV KK none Tryz.f25 xQ:=by intro x;kernel_rfl
theorem Of:ay tpr 25:=au Tryz.func25 rfl (by decide)
theorem Oo:aF tpr 25 xQ:=aH L5 (.cons AH Ay (.cons yH yC (.nil _))) aI Tryz.func25
def O4:List (Nat×Ann):=[(2,⟨[(1,.val .str),(2,.val .str),(9,.val (.slice az)),(10,.val tI),(11,.val tI)],[],[],aO _⟩),
 (200002,⟨[],[],[],fun _=>0⟩),
 (300004,⟨[(25,.val .bool)],[],[],fun _=>0⟩)]
def Ci:aA:=⟨[.val (.slice az),.val .str,.val .str],[.val tI],fun x=>qo x.1 x.2.1 x.2.2.1⟩
noncomputable def SS:Cx:=⟨tpr,[],[]⟩
theorem QY:aQ SS O4 none Tryz.f26 Ci:=by intro x;kernel_rfl
theorem Tr:ay tpr 26:=au Tryz.func26 rfl (by decide)
theorem TT:aF tpr 26 Ci:=aH QY (.nil _) aI Tryz.func26
end Go.Proofs.SeatU
end
