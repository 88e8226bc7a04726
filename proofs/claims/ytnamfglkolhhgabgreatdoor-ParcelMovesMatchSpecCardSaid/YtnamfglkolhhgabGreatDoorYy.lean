/-
  Each function that the law reaches is as its plain model says, a further part. No condition.
-/
import Derived.Test.YtnamfglkolhhgabGreatDoorYx
set_option linter.all false
set_option maxRecDepth 100000
noncomputable section
namespace Go.Proofs.SeatU
open Go.Dn Go.Md Go.Proofs
def qj:List CK:=[.val .bool,.own 3 tI]
def xu:List CK:=[.val .bool,.val (.slice tI)]
def Ch:ax:=⟨[.val bf],[.val bf],fun x=>Ec x.1⟩
noncomputable def RW:Cx:=⟨tpr,[],[]⟩
theorem Qi:aO RW [] none Tryz.f178 Ch:=by intro x;kernel_rfl
theorem Sg:aq tpr 178:=ak Tryz.func178 rfl (by decide)
theorem Sx:aD tpr 178 Ch:=aG Qi (.nil _) aH Tryz.func178
def N7:List (Nat×Ann):=[(4,⟨[(0,.val (.slice tI)),(1,.val (.slice tI)),(5,.val tI)],[],[],aT _⟩),
 (200004,⟨[],[],[],fun _=>0⟩)]
def xe:ax:=⟨[.val (.slice tI),.val (.slice tI)],[.val tI],fun x=>wh x.1 x.2.1⟩
noncomputable def R2:Cx:=⟨tpr,[],[]⟩
theorem Qn:aO R2 N7 none Tryz.f141 xe:=by intro x;kernel_rfl
theorem Ip:aq tpr 141:=ak Tryz.func141 rfl (by decide)
theorem It:aD tpr 141 xe:=aG Qn (.nil _) aH Tryz.func141
def Ck:ax:=⟨[.val (.slice tI),.val tI],[.val tI],fun x=>we x.1 x.2.1⟩
noncomputable def RZ:Cx:=⟨tpr,[],[]⟩
theorem Ql:aO RZ [] none Tryz.f142 Ck:=by intro x;kernel_rfl
theorem Sj:aq tpr 142:=ak Tryz.func142 rfl (by decide)
theorem SA:aD tpr 142 Ck:=aG Ql (.nil _) aH Tryz.func142
def PI:List (Nat×Ann):=[(7,⟨[(2,.ref 2 0),(3,.ref 3 0),(4,.ref 4 0),(5,.ref 5 0),(6,.val tI),(31,.val tI),(32,.val tI)],[(2,xu),(3,xu),(4,qj),(5,qj)],[],aT _⟩),
 (19,⟨[(2,.ref 2 0),(3,.ref 3 0),(4,.ref 4 0),(9,.ref 9 0),(10,.val tI),(70,.val tI),(71,.val tI)],[(2,xu),(3,xu),(4,qj),(9,qj)],[],aT _⟩),
 (100003,⟨[(2,.ref 2 0),(3,.ref 3 0),(4,.ref 4 0)],[(2,xu),(3,xu),(4,qj)],[],fun _=>0⟩),
 (100012,⟨[(2,.ref 2 0),(3,.ref 3 0),(4,.ref 4 0),(5,.ref 5 0),(6,.val tI),(8,.val tI),(31,.val tI),(32,.val tI)],[(2,xu),(3,xu),(4,qj),(5,qj)],[],fun _=>0⟩),
 (200007,⟨[(4,.ref 4 0),(5,.ref 5 0)],[(4,qj),(5,qj)],[],fun _=>0⟩),
 (200019,⟨[(4,.ref 4 0),(9,.ref 9 0)],[(4,qj),(9,qj)],[],fun _=>0⟩)]
def zo:ax:=⟨[.val bf,.val bf],[.val bf],fun x=>C6 x.1 x.2.1⟩
noncomputable def TX:Cx:=⟨tpr,[(141,xe),(142,Ck),(143,s5)],[]⟩
theorem R5:aO TX PI none Tryz.f95 zo:=by intro x;kernel_rfl
theorem KB:aq tpr 95:=ak Tryz.func95 rfl (by decide)
theorem KY:aD tpr 95 zo:=aG R5 (.cons It Ip (.cons SA Sj (.cons EP EJ (.nil _)))) aH Tryz.func95
def Eo:ax:=⟨[.val bf],[.val tI],fun x=>HA x.1⟩
noncomputable def TY:Cx:=⟨tpr,[],[]⟩
theorem R6:aO TY [] none Tryz.f177 Eo:=by intro x;kernel_rfl
theorem Ua:aq tpr 177:=ak Tryz.func177 rfl (by decide)
theorem Up:aD tpr 177 Eo:=aG R6 (.nil _) aH Tryz.func177
def GU:ax:=⟨[.val bf,.val bf],[.val tI],fun x=>GI x.1 x.2.1⟩
noncomputable def Va:Cx:=⟨tpr,[(95,zo),(177,Eo),(178,Ch)],[]⟩
theorem T3:aO Va [] none Tryz.f138 GU:=by intro x;kernel_rfl
theorem Vp:aq tpr 138:=ak Tryz.func138 rfl (by decide)
theorem VR:aD tpr 138 GU:=aG T3 (.cons KY KB (.cons Up Ua (.cons Sx Sg (.nil _)))) aH Tryz.func138
def Em:ax:=⟨[.val bK,.val bK],[.val tI],fun x=>Hz x.1 x.2.1⟩
noncomputable def TW:Cx:=⟨tpr,[(96,En),(138,GU)],[]⟩
theorem R4:aO TW [] none Tryz.f81 Em:=by intro x;kernel_rfl
theorem T9:aq tpr 81:=ak Tryz.func81 rfl (by decide)
theorem Uo:aD tpr 81 Em:=aG R4 (.cons Ra QF (.cons VR Vp (.nil _))) aH Tryz.func81
def sY:ax:=⟨[.val bK,.val .bool],[.val .bool],fun x=>jZ x.1 x.2.1⟩
noncomputable def Oh:Cx:=⟨tpr,[(80,mh),(81,Em)],[]⟩
theorem L1:aO Oh [] none Tryz.f47 sY:=by intro x;kernel_rfl
theorem EH:aq tpr 47:=ak Tryz.func47 rfl (by decide)
theorem EN:aD tpr 47 sY:=aG L1 (.cons xU xH (.cons Uo T9 (.nil _))) aH Tryz.func47
def Ct:List (Nat×Ann):=[(2,⟨[(22,.val (.slice tI)),(23,.val tI),(24,.val tI)],[],[],aT _⟩),
 (200002,⟨[],[],[],fun _=>0⟩)]
def lg:ax:=⟨[.val aL,.val aL],[.val tI],fun x=>fZ x.1 x.2.1⟩
noncomputable def EX:Cx:=⟨tpr,[(30,jc)],[]⟩
theorem Dy:aO EX Ct none Tryz.f60 lg:=by intro x;kernel_rfl
theorem vz:aq tpr 60:=ak Tryz.func60 rfl (by decide)
theorem vC:aD tpr 60 lg:=aG Dy (.cons qw qo (.nil _)) aH Tryz.func60
def BM:List (Nat×Ann):=[(4,⟨[(0,.val (.slice aL)),(8,.val (.slice aL)),(9,.val tI),(10,.val tI)],[],[],aT _⟩),
 (200004,⟨[],[],[],fun _=>0⟩)]
def ox:ax:=⟨[.val (.slice aL)],[.val tI],fun x=>jN x.1⟩
noncomputable def Dv:Cx:=⟨tpr,[(44,vk),(47,sY),(60,lg)],[]⟩
theorem CN:aO Dv BM none Tryz.f48 ox:=by intro x;kernel_rfl
theorem DL:aq tpr 48:=ak Tryz.func48 rfl (by decide)
theorem D1:aD tpr 48 ox:=aG CN (.cons Gr F8 (.cons EN EH (.cons vC vz (.nil _)))) aH Tryz.func48
def HH:List (Nat×Ann):=[(2,⟨[(1,.val .str),(7,.val (.slice aj)),(8,.val tI),(9,.val tI)],[],[],aT _⟩),
 (200002,⟨[],[],[],fun _=>0⟩)]
def ef:ax:=⟨[.val (.slice aj),.val .str],[.val tI],fun x=>eG x.1 x.2.1⟩
noncomputable def J6:Cx:=⟨tpr,[],[]⟩
theorem I5:aO J6 HH none Tryz.f18 ef:=by intro x;kernel_rfl
theorem gG:aq tpr 18:=ak Tryz.func18 rfl (by decide)
theorem gL:aD tpr 18 ef:=aG I5 (.nil _) aH Tryz.func18
def Ly:List (Nat×Ann):=[(3,⟨[(0,.val (.slice aj)),(1,.val tI),(5,.val tI),(8,.val tI),(9,.val tI)],[],[],aT _⟩),
 (200003,⟨[],[],[],fun _=>0⟩)]
def AM:ax:=⟨[.val (.slice aj),.val tI],[.val .bool],fun x=>Bx x.1 x.2.1⟩
noncomputable def P5:Cx:=⟨tpr,[(18,ef)],[]⟩
theorem Ox:aO P5 Ly none Tryz.f82 AM:=by intro x;kernel_rfl
theorem QD:aq tpr 82:=ak Tryz.func82 rfl (by decide)
theorem Q8:aD tpr 82 AM:=aG Ox (.cons gL gG (.nil _)) aH Tryz.func82
def RH:List (Nat×Ann):=[(2,⟨[(0,.val (.slice aj)),(1,.val tI),(6,.own 3 tI)],[],[],aT _⟩),
 (200002,⟨[(6,.own 3 tI)],[],[],fun _=>0⟩)]
def BD:ax:=⟨[.val (.slice aj),.val tI],[.row 3 tI,.val .bool],fun x=>GD x.1 x.2.1⟩
noncomputable def U9:Cx:=⟨tpr,[(18,ef)],[]⟩
theorem T0:aO U9 RH none Tryz.f51 BD:=by intro x;kernel_rfl
theorem Nv:aq tpr 51:=ak Tryz.func51 rfl (by decide)
theorem NJ:aD tpr 51 BD:=aG T0 (.cons gL gG (.nil _)) aH Tryz.func51
def LA:List (Nat×Ann):=[(2,⟨[(0,.val (.slice aj)),(9,.val (.slice aj)),(10,.val tI),(11,.val tI)],[],[],aT _⟩),
 (8,⟨[(0,.val (.slice aj)),(27,.val tI),(28,.val tI)],[],[],aT _⟩),
 (14,⟨[(0,.val (.slice aj)),(36,.val tI),(37,.val tI)],[],[],aT _⟩),
 (200002,⟨[(0,.val (.slice aj))],[],[],fun _=>0⟩),
 (200008,⟨[(0,.val (.slice aj))],[],[],fun _=>0⟩),
 (200014,⟨[],[],[],fun _=>0⟩)]
def AN:ax:=⟨[.val (.slice aj)],[.val tI],fun x=>By x.1⟩
noncomputable def P6:Cx:=⟨tpr,[(18,ef),(51,BD),(82,AM)],[]⟩
theorem Oy:aO P6 LA none Tryz.f49 AN:=by intro x;kernel_rfl
theorem QE:aq tpr 49:=ak Tryz.func49 rfl (by decide)
theorem Q9:aD tpr 49 AN:=aG Oy (.cons gL gG (.cons NJ Nv (.cons Q8 QD (.nil _)))) aH Tryz.func49
def Dm:List (Nat×Ann):=[(8,⟨[(1,.ref 1 0),(28,.val (.slice aj)),(29,.val tI),(30,.val tI)],[(1,[.val .str,.val .str,.val tI,.val (.slice aj)])],[],aT _⟩),
 (200008,⟨[(1,.ref 1 0)],[(1,[.val .str,.val .str,.val tI,.val (.slice aj)])],[],fun _=>0⟩)]
def iX:ax:=⟨[.val aX],[.val tI],fun x=>de x.1⟩
noncomputable def FO:Cx:=⟨tpr,[(44,vk),(45,Cg),(46,wz),(47,sY),(48,ox),(49,AN)],[]⟩
theorem E3:aO FO Dm none Tryz.f17 iX:=by intro x;kernel_rfl
theorem qm:aq tpr 17:=ak Tryz.func17 rfl (by decide)
theorem qv:aD tpr 17 iX:=aG E3 (.cons Gr F8 (.cons Sw Sf (.cons MF Mi (.cons EN EH (.cons D1 DL (.cons Q9 QE (.nil _))))))) aH Tryz.func17
def JO:List (Nat×Ann):=[(3,⟨[(0,.val (.slice aj)),(1,.val .str),(5,.own 3 tI),(10,.val tI),(11,.val tI)],[],[],aT _⟩),
 (200003,⟨[(5,.own 3 tI)],[],[],fun _=>0⟩)]
def yF:ax:=⟨[.val (.slice aj),.val .str],[.val (.slice tI)],fun x=>zg x.1 x.2.1⟩
noncomputable def Og:Cx:=⟨tpr,[(18,ef),(51,BD),(52,fK)],[]⟩
theorem L0:aO Og JO none Tryz.f21 yF:=by intro x;kernel_rfl
theorem OK:aq tpr 21:=ak Tryz.func21 rfl (by decide)
theorem OY:aD tpr 21 yF:=aG L0 (.cons gL gG (.cons NJ Nv (.cons mH mC (.nil _)))) aH Tryz.func21
def JP:List (Nat×Ann):=[(3,⟨[(0,.val (.slice aj)),(5,.own 9 .str),(8,.val (.slice tI)),(9,.val tI),(10,.val tI)],[],[],aT _⟩),
 (200003,⟨[(5,.own 9 .str)],[],[],fun _=>0⟩)]
def yG:ax:=⟨[.val (.slice aj),.val (.slice tI)],[.val (.slice .str)],fun x=>zh x.1 x.2.1⟩
noncomputable def Oi:Cx:=⟨tpr,[],[]⟩
theorem L2:aO Oi JP none Tryz.f20 yG:=by intro x;kernel_rfl
theorem OL:aq tpr 20:=ak Tryz.func20 rfl (by decide)
theorem OZ:aD tpr 20 yG:=aG L2 (.nil _) aH Tryz.func20
def zO:List (Nat×Ann):=[(2,⟨[(0,.val (.slice .str)),(1,.val .str),(7,.val tI),(8,.val tI)],[],[],aT _⟩),
 (200002,⟨[],[],[],fun _=>0⟩)]
def mN:ax:=⟨[.val (.slice .str),.val .str],[.val tI],fun x=>pL x.1 x.2.1⟩
noncomputable def BT:Cx:=⟨tpr,[],[]⟩
theorem A9:aO BT zO none Tryz.f50 mN:=by intro x;kernel_rfl
theorem BZ:aq tpr 50:=ak Tryz.func50 rfl (by decide)
theorem B6:aD tpr 50 mN:=aG A9 (.nil _) aH Tryz.func50
def ki:ax:=⟨[.val (.slice .str),.val .str],[.val .bool],fun x=>iO x.1 x.2.1⟩
noncomputable def yU:Cx:=⟨tpr,[(50,mN)],[]⟩
theorem ym:aO yU [] none Tryz.f19 ki:=by intro x;kernel_rfl
theorem yW:aq tpr 19:=ak Tryz.func19 rfl (by decide)
theorem yZ:aD tpr 19 ki:=aG ym (.cons B6 BZ (.nil _)) aH Tryz.func19
def Lx:List (Nat×Ann):=[(300005,⟨[(34,.val .bool)],[],[],fun _=>0⟩),
 (300007,⟨[(48,.val .bool)],[],[],fun _=>0⟩)]
def AL:ax:=⟨[.val aX,.val .str,.val .str],[.val aX,.val tI],fun x=>Bw x.1 x.2.1 x.2.2.1⟩
noncomputable def P4:Cx:=⟨tpr,[(17,iX),(18,ef),(19,ki),(20,yG),(21,yF)],[(22,QS)]⟩
theorem Ow:aO P4 Lx none Tryz.f5 AL:=by intro x;kernel_rfl
theorem QC:aq tpr 5:=ak Tryz.func5 rfl (by decide)
theorem Q7:aD tpr 5 AL:=aG Ow (.Xb VB VA (.cons qv qm (.cons gL gG (.cons yZ yW (.cons OZ OL (.cons OY OK (.nil _))))))) aH Tryz.func5
def vq:List (Nat×Ann):=[(4,⟨[(0,.val (.slice aL)),(1,.val (.slice aL)),(12,.val tI),(13,.val tI)],[],[],aT _⟩),
 (200004,⟨[],[],[],fun _=>0⟩)]
def jb:ax:=⟨[.val (.slice aL),.val (.slice aL)],[.val .bool],fun x=>gT x.1 x.2.1⟩
noncomputable def xB:Cx:=⟨tpr,[],[]⟩
theorem vM:aO xB vq none Tryz.f53 jb:=by intro x;kernel_rfl
theorem xK:aq tpr 53:=ak Tryz.func53 rfl (by decide)
theorem xX:aD tpr 53 jb:=aG vM (.nil _) aH Tryz.func53
def Dp:List (Nat×Ann):=[(4,⟨[(1,.val (.slice aj)),(13,.val (.slice aj)),(14,.val tI),(15,.val tI)],[],[],aT _⟩),
 (200004,⟨[],[],[],fun _=>0⟩)]
def qI:ax:=⟨[.val (.slice aj),.val (.slice aj)],[.val .bool],fun x=>pZ x.1 x.2.1⟩
noncomputable def FP:Cx:=⟨tpr,[(53,jb)],[]⟩
theorem E4:aO FP Dp none Tryz.f23 qI:=by intro x;kernel_rfl
theorem F7:aq tpr 23:=ak Tryz.func23 rfl (by decide)
theorem Gq:aD tpr 23 qI:=aG E4 (.cons xX xK (.nil _)) aH Tryz.func23
def N4:List (Nat×Ann):=[(300001,⟨[(4,.val .bool)],[],[],fun _=>0⟩)]
def Cf:ax:=⟨[.val aX,.val aX],[.val .bool],fun x=>tH x.1 x.2.1⟩
noncomputable def RU:Cx:=⟨tpr,[(23,qI)],[]⟩
theorem Qg:aO RU N4 none Tryz.f6 Cf:=by intro x;kernel_rfl
theorem Se:aq tpr 6:=ak Tryz.func6 rfl (by decide)
theorem Sv:aD tpr 6 Cf:=aG Qg (.cons Gq F7 (.nil _)) aH Tryz.func6
def jw:List (Nat×Ann):=[(3,⟨[(0,.val (.slice aL)),(2,.val (.clo 55 .unit)),(4,.ref 4 0),(8,.val tI),(9,.val tI),(10,.val tI)],[(4,[.val .str,.val .str,.val .str,.val tI,.val tI])],[],aT _⟩),
 (200003,⟨[(0,.val (.slice aL)),(2,.val (.clo 55 .unit)),(4,.ref 4 0),(8,.val tI),(9,.val tI)],[(4,[.val .str,.val .str,.val .str,.val tI,.val tI])],[],fun _=>0⟩)]
def cC:ax:=⟨[.val (.slice aL),.val aL,.val (.clo 55 .unit)],[.val tI,.val .bool],fun x=>bU x.1 x.2.1 x.2.2.1⟩
noncomputable def jQ:Cx:=⟨tpr,[(55,gB)],[]⟩
theorem jF:aO jQ jw none Tryz.f54 cC:=by intro x;kernel_rfl
theorem jS:aq tpr 54:=ak Tryz.func54 rfl (by decide)
theorem jT:aD tpr 54 cC:=aG jF (.cons pW pU (.nil _)) aH Tryz.func54
def Fx:List (Nat×Ann):=[(1,⟨[(0,.val (.slice (.int .u32)))],[],[],aT _⟩),
 (200001,⟨[(0,.val (.slice (.int .u32)))],[],[],fun _=>0⟩)]
def oy:ax:=⟨[.val (.slice (.int .u32))],[.val (.slice (.int .u32))],fun x=>oZ x.1⟩
noncomputable def IZ:Cx:=⟨tpr,[],[]⟩
theorem HU:aO IZ Fx none Tryz.f140 oy:=by intro x;kernel_rfl
theorem Ac:aq tpr 140:=ak Tryz.func140 rfl (by decide)
theorem Aj:aD tpr 140 oy:=aG HU (.nil _) aH Tryz.func140
def oV:ax:=⟨[.val .bool,.val (.slice (.int .u32))],[.val eS],fun x=>kj x.1 x.2.1⟩
noncomputable def Ot:Cx:=⟨tpr,[(140,oy)],[]⟩
theorem L9:aO Ot [] none Tryz.f91 oV:=by intro x;kernel_rfl
theorem yp:aq tpr 91:=ak Tryz.func91 rfl (by decide)
theorem yt:aD tpr 91 oV:=aG L9 (.cons Aj Ac (.nil _)) aH Tryz.func91
def N8:List (Nat×Ann):=[(100003,⟨[(0,.val tI),(2,.ref 2 0),(3,.val (.int .u64))],[(2,[.val .bool,.own 132 (.int .u32)])],[],fun _=>0⟩)]
def xg:ax:=⟨[.val tI],[.val eS],fun x=>wJ x.1⟩
noncomputable def R3:Cx:=⟨tpr,[(91,oV)],[]⟩
theorem Qo:aO R3 N8 none Tryz.f88 xg:=by intro x;kernel_rfl
theorem Iq:aq tpr 88:=ak Tryz.func88 rfl (by decide)
theorem Iu:aD tpr 88 xg:=aG Qo (.cons yt yp (.nil _)) aH Tryz.func88
end Go.Proofs.SeatU
end
