/-
  Each function that the law reaches is as its plain model says, a further part. No condition.
-/
import Derived.Test.YtjlkkapojeldlaaGreatDoorYy
set_option maxRecDepth 100000
noncomputable section
namespace Go.Proofs.SeatU
open Go.Dn Go.Md Go.Proofs
def fD:List CK:=[.val .bool,.own 3 tI]
def zT:List CK:=[.val .bool,.rowR 24]
def Ht:List CK:=[.val .bool,.val (.slice (.int .u32))]
def k9:List CK:=[.val .bool,.val (.slice tI)]
def Hg:List (Nat×Ann):=[(3,⟨[(3,.ref 3 0),(4,.ref 4 0),(5,.ref 5 0),(27,.val (.slice tI)),(28,.val tI),(29,.val tI)],[(3,k9),(4,fD),(5,zT)],[.rowC 24 3 tI],aW _⟩),
 (6,⟨[(3,.ref 3 0),(4,.ref 4 0),(5,.ref 5 0),(6,.val tI),(7,.val tI),(27,.val (.slice tI)),(28,.val tI),(29,.val tI),(35,.val (.slice tI)),(36,.val tI),(37,.val tI)],[(3,k9),(4,fD),(5,zT)],[.rowC 24 3 tI],aW _⟩),
 (14,⟨[(4,.ref 4 0),(5,.ref 5 0),(86,.val tI),(87,.val tI)],[(4,fD),(5,zT)],[.rowC 24 3 tI],aW _⟩),
 (200003,⟨[(4,.ref 4 0),(5,.ref 5 0)],[(4,fD),(5,zT)],[.rowC 24 3 tI],fun _=>0⟩),
 (200006,⟨[(3,.ref 3 0),(4,.ref 4 0),(5,.ref 5 0),(27,.val (.slice tI)),(28,.val tI),(29,.val tI)],[(3,k9),(4,fD),(5,zT)],[.rowC 24 3 tI],fun _=>0⟩),
 (200014,⟨[(4,.ref 4 0),(5,.ref 5 0)],[(4,fD),(5,zT)],[.rowC 24 3 tI],fun _=>0⟩)]
def wg:ak:=⟨[.val aZ,.val aZ],[.val aZ],fun x=>oW x.1 x.2.1⟩
noncomputable def LP:Cx:=⟨tpr,[(204,wh)],[]⟩
theorem Cb:FB 185 wg:=fbk LP Hg none (by intro x;kernel_rfl) (cz Cc (.nil _)) Tryz.func185
def LD:List (Nat×Ann):=[(3,⟨[(2,.ref 2 0),(3,.ref 3 0),(5,.val tI),(6,.val tI)],[(2,fD),(3,k9)],[],aW _⟩),
 (200003,⟨[(2,.ref 2 0),(3,.ref 3 0)],[(2,fD),(3,k9)],[],fun _=>0⟩)]
def FX:ak:=⟨[.val tI],[.val aZ],fun x=>BU x.1⟩
noncomputable def OB:Cx:=⟨tpr,[(185,wg),(186,GW)],[]⟩
theorem OL:FB 187 FX:=fbk OB LD none (by intro x;kernel_rfl) (cz Cb (cz Ng (.nil _))) Tryz.func187
def N9:ak:=⟨[.val bM,.val tI],[.val aZ],fun x=>BR x.1 x.2.1⟩
noncomputable def Tf:Cx:=⟨tpr,[(185,wg),(186,GW),(187,FX)],[]⟩
theorem Tm:FB 137 N9:=fbk Tf [] none (by intro x;kernel_rfl) (cz Cb (cz Ng (cz OL (.nil _)))) Tryz.func137
def FW:ak:=⟨[.val aZ],[.val aZ],fun x=>BT x.1⟩
noncomputable def OA:Cx:=⟨tpr,[],[]⟩
theorem OK:FB 184 FW:=fbk OA [] none (by intro x;kernel_rfl) (.nil _) Tryz.func184
def LF:List (Nat×Ann):=[(4,⟨[(0,.val (.slice tI)),(1,.val (.slice tI)),(5,.val tI)],[],[],aW _⟩),
 (200004,⟨[],[],[],fun _=>0⟩)]
def F0:ak:=⟨[.val (.slice tI),.val (.slice tI)],[.val tI],fun x=>BV x.1 x.2.1⟩
noncomputable def OE:Cx:=⟨tpr,[],[]⟩
theorem OO:FB 202 F0:=fbk OE LF none (by intro x;kernel_rfl) (.nil _) Tryz.func202
def FY:ak:=⟨[.val (.slice tI),.val tI],[.val tI],fun x=>uo x.1 x.2.1⟩
noncomputable def OC:Cx:=⟨tpr,[],[]⟩
theorem OM:FB 203 FY:=fbk OC [] none (by intro x;kernel_rfl) (.nil _) Tryz.func203
def MD:List (Nat×Ann):=[(7,⟨[(2,.ref 2 0),(3,.ref 3 0),(4,.ref 4 0),(5,.ref 5 0),(6,.val tI),(31,.val tI),(32,.val tI)],[(2,k9),(3,k9),(4,fD),(5,fD)],[],aW _⟩),
 (19,⟨[(2,.ref 2 0),(3,.ref 3 0),(4,.ref 4 0),(9,.ref 9 0),(10,.val tI),(70,.val tI),(71,.val tI)],[(2,k9),(3,k9),(4,fD),(9,fD)],[],aW _⟩),
 (100003,⟨[(2,.ref 2 0),(3,.ref 3 0),(4,.ref 4 0)],[(2,k9),(3,k9),(4,fD)],[],fun _=>0⟩),
 (100012,⟨[(2,.ref 2 0),(3,.ref 3 0),(4,.ref 4 0),(5,.ref 5 0),(6,.val tI),(8,.val tI),(31,.val tI),(32,.val tI)],[(2,k9),(3,k9),(4,fD),(5,fD)],[],fun _=>0⟩),
 (200007,⟨[(4,.ref 4 0),(5,.ref 5 0)],[(4,fD),(5,fD)],[],fun _=>0⟩),
 (200019,⟨[(4,.ref 4 0),(9,.ref 9 0)],[(4,fD),(9,fD)],[],fun _=>0⟩)]
def IT:ak:=⟨[.val aZ,.val aZ],[.val aZ],fun x=>ET x.1 x.2.1⟩
noncomputable def Qj:Cx:=⟨tpr,[(202,F0),(203,FY),(204,wh)],[]⟩
theorem Qq:FB 183 IT:=fbk Qj MD none (by intro x;kernel_rfl) (cz OO (cz OM (cz Cc (.nil _)))) Tryz.func183
def IU:ak:=⟨[.val aZ],[.val tI],fun x=>EU x.1⟩
noncomputable def Qk:Cx:=⟨tpr,[],[]⟩
theorem Qr:FB 182 IU:=fbk Qk [] none (by intro x;kernel_rfl) (.nil _) Tryz.func182
def Lo:ak:=⟨[.val aZ,.val aZ],[.val tI],fun x=>DY x.1 x.2.1⟩
noncomputable def RF:Cx:=⟨tpr,[(182,IU),(183,IT),(184,FW)],[]⟩
theorem RP:FB 136 Lo:=fbk RF [] none (by intro x;kernel_rfl) (cz Qr (cz Qq (cz OK (.nil _)))) Tryz.func136
def IS:ak:=⟨[.val bM,.val bM],[.val tI],fun x=>ER x.1 x.2.1⟩
noncomputable def Qi:Cx:=⟨tpr,[(136,Lo),(137,N9)],[]⟩
theorem Qp:FB 80 IS:=fbk Qi [] none (by intro x;kernel_rfl) (cz RP (cz Tm (.nil _))) Tryz.func80
def we:ak:=⟨[.val bM,.val .bool],[.val .bool],fun x=>iH x.1 x.2.1⟩
noncomputable def LN:Cx:=⟨tpr,[(79,ot),(80,IS)],[]⟩
theorem Ca:FB 46 we:=fbk LN [] none (by intro x;kernel_rfl) (cz vo (cz Qp (.nil _))) Tryz.func46
def zO:List (Nat×Ann):=[(2,⟨[(22,.val (.slice tI)),(23,.val tI),(24,.val tI)],[],[],aW _⟩),
 (200002,⟨[],[],[],fun _=>0⟩)]
def tH:ak:=⟨[.val bh,.val bh],[.val tI],fun x=>iX x.1 x.2.1⟩
noncomputable def Cw:Cx:=⟨tpr,[(127,gN)],[]⟩
theorem CC:FB 81 tH:=fbk Cw zO none (by intro x;kernel_rfl) (.cons nX nQ (.nil _)) Tryz.func81
def yU:List (Nat×Ann):=[(4,⟨[(0,.val (.slice bh)),(8,.val (.slice bh)),(9,.val tI),(10,.val tI)],[],[],aW _⟩),
 (200004,⟨[],[],[],fun _=>0⟩)]
def s7:ak:=⟨[.val (.slice bh)],[.val tI],fun x=>ig x.1⟩
noncomputable def A8:Cx:=⟨tpr,[(43,xX),(46,we),(81,tH)],[]⟩
theorem Bh:FB 47 s7:=fbk A8 yU none (by intro x;kernel_rfl) (cz Dp (cz Ca (cz CC (.nil _)))) Tryz.func47
def E1:List (Nat×Ann):=[(2,⟨[(1,.val .str),(7,.val (.slice az)),(8,.val tI),(9,.val tI)],[],[],aW _⟩),
 (200002,⟨[],[],[],fun _=>0⟩)]
def nL:ak:=⟨[.val (.slice az),.val .str],[.val tI],fun x=>lC x.1 x.2.1⟩
noncomputable def Hz:Cx:=⟨tpr,[],[]⟩
theorem sj:FB 82 nL:=fbk Hz E1 none (by intro x;kernel_rfl) (.nil _) Tryz.func82
def Jg:List (Nat×Ann):=[(3,⟨[(0,.val (.slice az)),(1,.val tI),(5,.val tI),(8,.val tI),(9,.val tI)],[],[],aW _⟩),
 (200003,⟨[],[],[],fun _=>0⟩)]
def Eb:ak:=⟨[.val (.slice az),.val tI],[.val .bool],fun x=>yE x.1 x.2.1⟩
noncomputable def MT:Cx:=⟨tpr,[(82,nL)],[]⟩
theorem Nd:FB 83 Eb:=fbk MT Jg none (by intro x;kernel_rfl) (cz sj (.nil _)) Tryz.func83
def Om:List (Nat×Ann):=[(2,⟨[(0,.val (.slice az)),(1,.val tI),(6,.own 3 tI)],[],[],aW _⟩),
 (200002,⟨[(6,.own 3 tI)],[],[],fun _=>0⟩)]
def Ln:ak:=⟨[.val (.slice az),.val tI],[.row 3 tI,.val .bool],fun x=>ID x.1 x.2.1⟩
noncomputable def RE:Cx:=⟨tpr,[(82,nL)],[]⟩
theorem RO:FB 84 Ln:=fbk RE Om none (by intro x;kernel_rfl) (cz sj (.nil _)) Tryz.func84
def Jh:List (Nat×Ann):=[(2,⟨[(0,.val (.slice az)),(9,.val (.slice az)),(10,.val tI),(11,.val tI)],[],[],aW _⟩),
 (8,⟨[(0,.val (.slice az)),(27,.val tI),(28,.val tI)],[],[],aW _⟩),
 (14,⟨[(0,.val (.slice az)),(36,.val tI),(37,.val tI)],[],[],aW _⟩),
 (200002,⟨[(0,.val (.slice az))],[],[],fun _=>0⟩),
 (200008,⟨[(0,.val (.slice az))],[],[],fun _=>0⟩),
 (200014,⟨[],[],[],fun _=>0⟩)]
def Ec:ak:=⟨[.val (.slice az)],[.val tI],fun x=>yF x.1⟩
noncomputable def MU:Cx:=⟨tpr,[(82,nL),(83,Eb),(84,Ln)],[]⟩
theorem Nf:FB 48 Ec:=fbk MU Jh none (by intro x;kernel_rfl) (cz sj (cz Nd (cz RO (.nil _)))) Tryz.func48
def AW:List (Nat×Ann):=[(8,⟨[(1,.ref 1 0),(28,.val (.slice az)),(29,.val tI),(30,.val tI)],[(1,[.val .str,.val .str,.val tI,.val (.slice az)])],[],aW _⟩),
 (200008,⟨[(1,.ref 1 0)],[(1,[.val .str,.val .str,.val tI,.val (.slice az)])],[],fun _=>0⟩)]
def vK:ak:=⟨[.val cH],[.val tI],fun x=>nH x.1⟩
noncomputable def Db:Cx:=⟨tpr,[(43,xX),(44,FV),(45,AF),(46,we),(47,s7),(48,Ec)],[]⟩
theorem Dl:FB 16 vK:=fbk Db AW none (by intro x;kernel_rfl) (cz Dp (cz OJ (cz JM (cz Ca (cz Bh (cz Nf (.nil _))))))) Tryz.func16
def FR:ak:=⟨[.val (.slice .str)],[.val .str],fun x=>gv x.1⟩
noncomputable def Ow:Cx:=⟨tpr,[(55,yN)],[]⟩
theorem M6:rS Ow [] none Tryz.f20 FR:=by intro x;kernel_rfl
theorem O2:bQ tpr 20 FR:=mH M6 (.cons It Ia (.nil _)) p8 Tryz.func20
def FQ:ak:=⟨[.val .str],[.val .str],fun x=>kG x.1⟩
noncomputable def Ov:Cx:=⟨tpr,[],[]⟩
theorem M5:rS Ov [] none Tryz.f22 FQ:=by intro x;kernel_rfl
theorem O1:bQ tpr 22 FQ:=mH M5 (.nil _) p8 Tryz.func22
def xY:ak:=⟨[.val cM],[.val cM],fun x=>qO x.1⟩
noncomputable def Gj:Cx:=⟨tpr,[(151,jA)],[]⟩
theorem Gt:FB 99 xY:=fbk Gj [] none (by intro x;kernel_rfl) (cz mJ (.nil _)) Tryz.func99
def qo:ak:=⟨[.val (.slice (.int .u32))],[.row 148 (.int .u32)],fun x=>jl x.1⟩
noncomputable def za:Cx:=⟨tpr,[],[]⟩
theorem zg:FB 152 qo:=fbk za [] none (by intro x;kernel_rfl) (.nil _) Tryz.func152
def AV:List (Nat×Ann):=[(100002,⟨[(0,.val (.int .u32)),(1,.val (.int .u32)),(2,.val (.int .u32))],[],[],fun _=>0⟩),
 (300001,⟨[(15,.val .bool)],[],[],fun _=>0⟩)]
def vJ:ak:=⟨[.val (.int .u32),.val (.int .u32),.val (.int .u32)],[.val (.int .u32),.val (.int .u32)],fun x=>nE x.1 x.2.1 x.2.2.1⟩
noncomputable def C9:Cx:=⟨tpr,[],[]⟩
theorem Dk:FB 153 vJ:=fbk C9 AV none (by intro x;kernel_rfl) (.nil _) Tryz.func153
def xe:List (Nat×Ann):=[(1,⟨[(0,.rowR 10250000),(2,.val tI),(3,.val tI)],[],[.rowC 10250000 5 (.int .u8)],aW _⟩),
 (200001,⟨[],[],[.rowC 10250000 5 (.int .u8)],fun _=>0⟩)]
def qp:ak:=⟨[.mrow 5 (.int .u8)],[],fun x=>gp x.1⟩
noncomputable def ze:Cx:=⟨tpr,[],[]⟩
theorem zh:FB 155 qp:=fbk ze xe none (by intro x;kernel_rfl) (.nil _) Tryz.func155
def Ct:List (Nat×Ann):=[(5,⟨[(1,.ref 1 0),(3,.own 5 (.int .u8)),(4,.own 148 (.int .u32))],[(1,Ht)],[],fun x=>20*x.2.1.length+2⟩),
 (8,⟨[(1,.ref 1 0),(3,.own 5 (.int .u8)),(4,.own 148 (.int .u32)),(5,.val (.int .u32)),(6,.val tI)],[(1,Ht)],[],aW _⟩),
 (200005,⟨[(1,.ref 1 0),(3,.own 5 (.int .u8))],[(1,Ht)],[],fun _=>0⟩),
 (200008,⟨[(1,.ref 1 0),(3,.own 5 (.int .u8)),(4,.own 148 (.int .u32)),(5,.val (.int .u32))],[(1,Ht)],[],fun _=>0⟩)]
def wE:ak:=⟨[.val cM],[.val .str],fun x=>pn x.1⟩
noncomputable def E9:Cx:=⟨tpr,[(152,qo),(153,vJ),(154,vO),(155,qp)],[]⟩
theorem Fi:FB 100 wE:=fbk E9 Ct none (by intro x;kernel_rfl) (cz zg (cz Dk (.cons DN Dw (cz zh (.nil _))))) Tryz.func100
def wz:ak:=⟨[.val .str,.val tI],[.val .str,.val .str],fun x=>oK x.1 x.2.1⟩
noncomputable def E4:Cx:=⟨tpr,[(53,ij)],[]⟩
theorem Fc:FB 97 wz:=fbk E4 [] none (by intro x;kernel_rfl) (.cons pH pG (.nil _)) Tryz.func97
def Ay:ak:=⟨[.val bM],[.val .str],fun x=>pN x.1⟩
noncomputable def Jq:Cx:=⟨tpr,[],[]⟩
theorem JI:FB 101 Ay:=fbk Jq [] none (by intro x;kernel_rfl) (.nil _) Tryz.func101
def Av:ak:=⟨[.val bM],[.val .str,.val tI],fun x=>uG x.1⟩
noncomputable def Jn:Cx:=⟨tpr,[(96,kN),(97,wz),(98,zD),(99,xY),(100,wE),(101,Ay)],[]⟩
theorem JG:FB 57 Av:=fbk Jn [] none (by intro x;kernel_rfl) (cz pU (cz Fc (cz Fy (cz Gt (cz Fi (cz JI (.nil _))))))) Tryz.func57
def Aw:ak:=⟨[.val bM],[.val .str],fun x=>fA x.1⟩
noncomputable def Jo:Cx:=⟨tpr,[(57,Av)],[]⟩
theorem HG:rS Jo [] none Tryz.f23 Aw:=by intro x;kernel_rfl
theorem Ka:bQ tpr 23 Aw:=mH HG (cz JG (.nil _)) p8 Tryz.func23
def tv:List (Nat×Ann):=[(4,⟨[(0,.val (.slice bh)),(1,.val (.slice bh)),(12,.val tI),(13,.val tI)],[],[],aW _⟩),
 (200004,⟨[],[],[],fun _=>0⟩)]
def lW:ak:=⟨[.val (.slice bh),.val (.slice bh)],[.val .bool],fun x=>fO x.1 x.2.1⟩
noncomputable def vj:Cx:=⟨tpr,[],[]⟩
theorem vp:FB 49 lW:=fbk vj tv none (by intro x;kernel_rfl) (.nil _) Tryz.func49
end Go.Proofs.SeatU
end
