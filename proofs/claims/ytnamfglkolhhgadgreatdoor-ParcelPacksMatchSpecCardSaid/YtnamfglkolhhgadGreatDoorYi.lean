/-
  Each function that the law reaches is as its plain model says, a further part. No condition.
-/
import Derived.Test.YtnamfglkolhhgadGreatDoorYz
set_option linter.all false
set_option maxRecDepth 100000
noncomputable section
namespace Go.Proofs.SeatU
open Go.Dn Go.Md Go.Proofs
def Qy:List CK:=[.val .bool,.own 3 tI]
def C0:List CK:=[.val .bool,.val (.slice tI)]
def abQ:List CK:=[.val .str,.val .str,.val tI,.val tI,.val (.slice bU)]
def HS:List CK:=[.val tI,.val tI]
def ur:List (Nat×Ann):=[(2,⟨[(0,.rowR 10250000),(2,.val tI),(4,.val (.clo 95 .unit)),(10,.val tI),(11,.val tI)],[],[.rowC 10250000 70 aS],aO _⟩),
 (200002,⟨[(0,.rowR 10250000),(2,.val tI),(4,.val (.clo 95 .unit)),(10,.val tI)],[],[.rowC 10250000 70 aS],fun _=>0⟩)]
def iw:aA:=⟨[.mrow 70 aS,.val tI,.val tI,.val tI,.val (.clo 95 .unit)],[],fun x=>fT x.1 x.2.1 x.2.2.1 x.2.2.2.1 x.2.2.2.2.1⟩
noncomputable def vl:Cx:=⟨tpr,[(224,gJ)],[]⟩
theorem u9:aQ vl ur none Tryz.f217 iw:=by intro x;kernel_rfl
theorem vp:ay tpr 217:=au Tryz.func217 rfl (by decide)
theorem vz:aF tpr 217 iw:=aH u9 (.cons tv tg (.nil _)) aI Tryz.func217
def jO:List (Nat×Ann):=[(3,⟨[(0,.rowR 10250000),(1,.val tI),(4,.val (.clo 95 .unit)),(10,.val tI),(11,.val tI)],[],[.rowC 10250000 70 aS],aO _⟩),
 (9,⟨[(0,.rowR 10250000),(10,.val tI),(13,.val tI)],[],[.rowC 10250000 70 aS],aO _⟩),
 (15,⟨[(0,.rowR 10250000),(2,.val tI),(4,.val (.clo 95 .unit)),(14,.val tI),(15,.val tI)],[],[.rowC 10250000 70 aS],aO _⟩),
 (21,⟨[(0,.rowR 10250000),(14,.val tI),(17,.val tI)],[],[.rowC 10250000 70 aS],aO _⟩),
 (33,⟨[(0,.rowR 10250000),(1,.val tI),(2,.val tI),(3,.val tI),(4,.val (.clo 95 .unit)),(18,.val tI),(19,.val tI),(20,.val tI),(21,.val tI),(22,.val tI)],[],[.rowC 10250000 70 aS],aO _⟩),
 (100030,⟨[(0,.rowR 10250000),(1,.val tI),(2,.val tI),(3,.val tI),(4,.val (.clo 95 .unit)),(18,.val tI),(19,.val tI),(20,.val tI),(21,.val tI)],[],[.rowC 10250000 70 aS],fun _=>0⟩),
 (100040,⟨[(0,.rowR 10250000),(1,.val tI),(3,.val tI),(4,.val (.clo 95 .unit)),(18,.val tI),(20,.val tI),(24,.val tI)],[],[.rowC 10250000 70 aS],fun _=>0⟩),
 (100042,⟨[(0,.rowR 10250000),(3,.val tI),(4,.val (.clo 95 .unit)),(18,.val tI),(24,.val tI)],[],[.rowC 10250000 70 aS],fun _=>0⟩),
 (200003,⟨[(0,.rowR 10250000),(1,.val tI),(10,.val tI)],[],[.rowC 10250000 70 aS],fun _=>0⟩),
 (200009,⟨[],[],[.rowC 10250000 70 aS],fun _=>0⟩),
 (200015,⟨[(0,.rowR 10250000),(2,.val tI),(14,.val tI)],[],[.rowC 10250000 70 aS],fun _=>0⟩),
 (200021,⟨[],[],[.rowC 10250000 70 aS],fun _=>0⟩),
 (200033,⟨[(0,.rowR 10250000),(1,.val tI),(2,.val tI),(3,.val tI),(4,.val (.clo 95 .unit)),(18,.val tI),(19,.val tI),(20,.val tI)],[],[.rowC 10250000 70 aS],fun _=>0⟩)]
def bJ:List PM:=[.mrow 70 aS,.val tI,.val tI,.val tI,.val (.clo 95 .unit)]
def bV:List RM:=[]
noncomputable def kJ:List (Nat×aA):=[(95,pT),(217,iw)]
def lu:aA:=⟨bJ,bV,fun x=>cZ x.1 x.2.1 x.2.2.1 x.2.2.2.1 x.2.2.2.2.1⟩
theorem tc:∀ (self:fI bJ→Option (cF bJ bV)) (x:fI bJ),Pn ⟨tpr,(196,⟨bJ,bV,self⟩)::kJ,[]⟩ jO none Tryz.f196 ⟨bJ,bV,fun x=>bM self x.1 x.2.1 x.2.2.1 x.2.2.2.1 x.2.2.2.2.1⟩ x=bM self x.1 x.2.1 x.2.2.1 x.2.2.2.1 x.2.2.2.2.1:=by intro self x;kernel_rfl
theorem kX:ay tpr 196:=au Tryz.func196 rfl (by decide)
theorem uw:aF tpr 196 lu:=Y9 (ps:=bJ) (rs:=bV) (m:=fun n x=>Fp (fun self x=>bM self x.1 x.2.1 x.2.2.1 x.2.2.2.1 x.2.2.2.2.1) n x) (Rl (P:=Tryz.prog) (specs:=kJ) (ps:=bJ) (rs:=bV) (.cons Ds Da (.cons vz vp (.nil _))) (by kernel_rfl) (fun self x=>bM self x.1 x.2.1 x.2.2.1 x.2.2.2.1 x.2.2.2.2.1) jO none (by kernel_rfl) kX tc) (fun x=>gv x.1 x.2.1 x.2.2.1 x.2.2.2.1 x.2.2.2.2.1)
def uu:List (Nat×Ann):=[(2,⟨[(0,.rowR 10250000),(1,.val tI),(2,.val (.clo 95 .unit)),(6,.val tI),(7,.val tI),(8,.val tI)],[],[.rowC 10250000 70 aS],aO _⟩),
 (7,⟨[(0,.rowR 10250000),(1,.val tI),(2,.val (.clo 95 .unit)),(6,.val tI)],[],[.rowC 10250000 70 aS],aO _⟩),
 (9,⟨[(0,.rowR 10250000),(1,.val tI),(2,.val (.clo 95 .unit)),(6,.val tI),(7,.val tI),(8,.val tI)],[],[.rowC 10250000 70 aS],aO _⟩),
 (200002,⟨[(0,.rowR 10250000),(1,.val tI),(2,.val (.clo 95 .unit)),(6,.val tI),(7,.val tI)],[],[.rowC 10250000 70 aS],fun _=>0⟩),
 (200007,⟨[],[],[.rowC 10250000 70 aS],fun _=>0⟩),
 (200009,⟨[(0,.rowR 10250000),(1,.val tI),(2,.val (.clo 95 .unit)),(6,.val tI),(7,.val tI)],[],[.rowC 10250000 70 aS],fun _=>0⟩)]
def iy:aA:=⟨[.mrow 70 aS,.val tI,.val (.clo 95 .unit)],[],fun x=>jb x.1 x.2.1 x.2.2.1⟩
noncomputable def vm:Cx:=⟨tpr,[(195,fN),(196,lu)],[]⟩
theorem ve:aQ vm uu none Tryz.f155 iy:=by intro x;kernel_rfl
theorem vq:ay tpr 155:=au Tryz.func155 rfl (by decide)
theorem vA:aF tpr 155 iy:=aH ve (.cons qB qA (.cons uw kX (.nil _))) aI Tryz.func155
def gU:aA:=⟨[.mrow 70 aS,.val (.clo 95 .unit)],[],fun x=>fP x.1 x.2.1⟩
noncomputable def u7:Cx:=⟨tpr,[(155,iy)],[]⟩
theorem uv:aQ u7 [] none Tryz.f94 gU:=by intro x;kernel_rfl
theorem vf:ay tpr 94:=au Tryz.func94 rfl (by decide)
theorem vg:aF tpr 94 gU:=aH uv (.cons vA vq (.nil _)) aI Tryz.func94
def Lr:List (Nat×Ann):=[(3,⟨[(1,.val (.slice az)),(6,.own 70 aS),(11,.val (.slice an)),(12,.val tI),(13,.val tI)],[],[],aO _⟩),
 (200003,⟨[(6,.own 70 aS)],[],[],fun _=>0⟩)]
def zI:aA:=⟨[.val (.slice an),.val (.slice az)],[.val (.slice aS),.val .bool],fun x=>ox x.1 x.2.1⟩
noncomputable def Pg:Cx:=⟨tpr,[(91,xP),(92,jJ),(93,xz),(94,gU)],[]⟩
theorem N4:aQ Pg Lr none Tryz.f32 zI:=by intro x;kernel_rfl
theorem PG:ay tpr 32:=au Tryz.func32 rfl (by decide)
theorem PU:aF tpr 32 zI:=aH N4 (.cons On Oe (.cons oS oO (.cons IB Ip (.cons vg vf (.nil _))))) aI Tryz.func32
def Bl:aA:=⟨[.val aY],[.val bp],fun x=>vk x.1⟩
noncomputable def QD:Cx:=⟨tpr,[(82,nI)],[]⟩
theorem Po:aQ QD [] none Tryz.f33 Bl:=by intro x;kernel_rfl
theorem Rm:ay tpr 33:=au Tryz.func33 rfl (by decide)
theorem RJ:aF tpr 33 Bl:=aH Po (.cons zx zn (.nil _)) aI Tryz.func33
def xL:aA:=⟨[.val bp,.val (.ptr aS),.val (.ptr bp)],[.val .bool],fun x=>B5 x.1 x.2.1 x.2.2.1⟩
noncomputable def NQ:Cx:=⟨tpr,[(34,kz),(37,kF)],[]⟩
theorem LY:aQ NQ [] none Tryz.f36 xL:=by intro x;kernel_rfl
theorem Oa:ay tpr 36:=au Tryz.func36 rfl (by decide)
theorem Oi:aF tpr 36 xL:=aH LY (.cons sD sA (.cons qD qC (.nil _))) aI Tryz.func36
def Aj:List (Nat×Ann):=[(2,⟨[(0,.val (.slice bp)),(1,.val (.clo 36 (.pair (.ptr aS) (.ptr bp)))),(7,.val tI),(8,.val tI)],[],[],aO _⟩),
 (200002,⟨[],[],[],fun _=>0⟩)]
def kR:aA:=⟨[.val (.slice bp),.val (.clo 36 (.pair (.ptr aS) (.ptr bp)))],[.val tI],fun x=>gG x.1 x.2.1⟩
noncomputable def BE:Cx:=⟨tpr,[(36,xL)],[]⟩
theorem Au:aQ BE Aj none Tryz.f35 kR:=by intro x;kernel_rfl
theorem BG:ay tpr 35:=au Tryz.func35 rfl (by decide)
theorem BJ:aF tpr 35 kR:=aH Au (.cons Oi Oa (.nil _)) aI Tryz.func35
def gI:aA:=⟨[.val (.slice an)],[.row 57 an],fun x=>de x.1⟩
noncomputable def DP:Cx:=⟨tpr,[],[]⟩
theorem C6:aQ DP [] none Tryz.f52 gI:=by intro x;kernel_rfl
theorem mA:ay tpr 52:=au Tryz.func52 rfl (by decide)
theorem mB:aF tpr 52 gI:=aH C6 (.nil _) aI Tryz.func52
def l7:aA:=⟨[.val (.slice bU)],[.val (.slice bU)],fun x=>ko x.1⟩
noncomputable def C4:Cx:=⟨tpr,[],[]⟩
theorem BU:aQ C4 [] none Tryz.f102 l7:=by intro x;kernel_rfl
theorem Dc:ay tpr 102:=au Tryz.func102 rfl (by decide)
theorem Du:aF tpr 102 l7:=aH BU (.nil _) aI Tryz.func102
def EJ:List (Nat×Ann):=[(3,⟨[(0,.rowR 23824),(7,.rowR 23824),(8,.val tI),(9,.val tI)],[],[.rowC 23824 57 an],aO _⟩),
 (200003,⟨[(0,.rowR 23824)],[],[.rowC 23824 57 an],fun _=>0⟩)]
def qs:aA:=⟨[.val (.slice an)],[.row 57 an],fun x=>iS x.1⟩
noncomputable def G5:Cx:=⟨tpr,[(52,gI),(102,l7)],[]⟩
theorem F8:aQ G5 EJ none Tryz.f39 qs:=by intro x;kernel_rfl
theorem Hi:ay tpr 39:=au Tryz.func39 rfl (by decide)
theorem Hs:aF tpr 39 qs:=aH F8 (.cons mB mA (.cons Du Dc (.nil _))) aI Tryz.func39
def NJ:List (Nat×Ann):=[(13,⟨[(0,.val (.slice an)),(3,.val .str),(4,.val tI),(15,.ref 15 0),(16,.own 67 bp),(17,.rowR 62),(63,.val (.slice aS)),(64,.val tI),(65,.val tI)],[(15,[.val .bool,.val (.slice (.int .u32))])],[.rowC 62 3 tI],aO _⟩),
 (25,⟨[(0,.val (.slice an)),(3,.val .str),(4,.val tI),(17,.rowR 62),(21,.rowR 210192),(22,.own 9 .str),(99,.val tI),(100,.val tI)],[],[.rowC 62 3 tI,.rowC 210192 57 an],aO _⟩),
 (33,⟨[(0,.val (.slice an)),(17,.rowR 62),(21,.rowR 210192),(22,.val (.slice .str)),(119,.val (.slice .str)),(120,.val tI),(121,.val tI)],[],[.rowC 62 3 tI,.rowC 210192 57 an],aO _⟩),
 (41,⟨[(17,.rowR 62),(21,.rowR 210192),(22,.val (.slice .str)),(136,.val tI),(137,.val tI)],[],[.rowC 62 3 tI,.rowC 210192 57 an],aO _⟩),
 (46,⟨[(21,.own 57 an),(152,.val (.slice .str)),(153,.val tI),(154,.val tI)],[],[],aO _⟩),
 (100017,⟨[(0,.val (.slice an)),(3,.val .str),(4,.val tI),(15,.ref 15 0),(16,.own 67 bp),(17,.rowR 62),(19,.ref 19 0),(20,.val tI),(63,.val (.slice aS)),(64,.val tI),(65,.val tI)],[(15,[.val .bool,.val (.slice (.int .u32))]),(19,[.val tI,.val .bool,.val (.slice (.int .u32))])],[.rowC 62 3 tI],fun _=>0⟩),
 (200013,⟨[(0,.val (.slice an)),(3,.val .str),(4,.val tI),(16,.own 67 bp),(17,.rowR 62)],[],[.rowC 62 3 tI],fun _=>0⟩),
 (200025,⟨[(0,.val (.slice an)),(17,.rowR 62),(21,.rowR 210192),(22,.own 9 .str)],[],[.rowC 62 3 tI,.rowC 210192 57 an],fun _=>0⟩),
 (200033,⟨[(0,.val (.slice an)),(17,.rowR 62),(21,.rowR 210192),(22,.val (.slice .str))],[],[.rowC 62 3 tI,.rowC 210192 57 an],fun _=>0⟩),
 (200041,⟨[(21,.rowR 210192),(22,.val (.slice .str))],[],[.rowC 210192 57 an],fun _=>0⟩),
 (200046,⟨[(21,.own 57 an)],[],[],fun _=>0⟩)]
def Bq:aA:=⟨[.val (.slice an),.val (.slice az),.val aY,.val .str,.val tI],[.row 57 an,.val tI],fun x=>AQ x.1 x.2.1 x.2.2.1 x.2.2.2.1 x.2.2.2.2.1⟩
noncomputable def QH:Cx:=⟨tpr,[(4,iK),(31,sP),(32,zI),(33,Bl),(34,kz),(35,kR),(37,kF),(38,nj),(39,qs),(40,iG),(42,qy)],[]⟩
theorem Pu:aQ QH NJ none Tryz.f9 Bq:=by intro x;kernel_rfl
theorem Rq:ay tpr 9:=au Tryz.func9 rfl (by decide)
theorem RP:aF tpr 9 Bq:=aH Pu (.cons mH mF (.cons JN Js (.cons PU PG (.cons RJ Rm (.cons sD sA (.cons BJ BG (.cons qD qC (.cons uj uf (.cons Hs Hi (.cons wU wO (.cons BK BH (.nil _)))))))))))) aI Tryz.func9
def HD:aA:=⟨[.val tI],[.val .bool],fun x=>Qa x.1⟩
noncomputable def Y0:Cx:=⟨tpr,[(111,rO)],[]⟩
theorem Xd:aQ Y0 [] none Tryz.f168 HD:=by intro x;kernel_rfl
theorem Zg:ay tpr 168:=au Tryz.func168 rfl (by decide)
theorem Zr:aF tpr 168 HD:=aH Xd (.cons AI Az (.nil _)) aI Tryz.func168
def HA:aA:=⟨[.val tI],[.val .bool],fun x=>J4 x.1⟩
noncomputable def YW:Cx:=⟨tpr,[(168,HD)],[]⟩
theorem W9:aQ YW [] none Tryz.f107 HA:=by intro x;kernel_rfl
theorem Zd:ay tpr 107:=au Tryz.func107 rfl (by decide)
theorem Zo:aF tpr 107 HA:=aH W9 (.cons Zr Zg (.nil _)) aI Tryz.func107
def Cl:aA:=⟨[.val tI,.val .str],[.val .bool,.val tI],fun x=>CJ x.1 x.2.1⟩
noncomputable def SY:Cx:=⟨tpr,[(76,Bv),(77,xw)],[]⟩
theorem Q3:aQ SY [] none Tryz.f169 Cl:=by intro x;kernel_rfl
theorem Tv:ay tpr 169:=au Tryz.func169 rfl (by decide)
theorem TW:aF tpr 169 Cl:=aH Q3 (.cons MB Mk (.cons IA Io (.nil _))) aI Tryz.func169
def Ck:aA:=⟨[.val .str],[.val .bool],fun x=>yc x.1⟩
noncomputable def SX:Cx:=⟨tpr,[(169,Cl)],[]⟩
theorem Q0:aQ SX [] none Tryz.f108 Ck:=by intro x;kernel_rfl
theorem Tu:ay tpr 108:=au Tryz.func108 rfl (by decide)
theorem TV:aF tpr 108 Ck:=aH Q0 (.cons TW Tv (.nil _)) aI Tryz.func108
def HN:List (Nat×Ann):=[(2,⟨[(22,.val (.slice tI)),(23,.val tI),(24,.val tI)],[],[],aO _⟩),
 (200002,⟨[],[],[],fun _=>0⟩)]
def uE:aA:=⟨[.val bU,.val bU],[.val tI],fun x=>nD x.1 x.2.1⟩
noncomputable def KN:Cx:=⟨tpr,[(44,jI)],[]⟩
theorem Je:aQ KN HN none Tryz.f170 uE:=by intro x;kernel_rfl
theorem K1:ay tpr 170:=au Tryz.func170 rfl (by decide)
theorem K5:aF tpr 170 uE:=aH Je (.cons oQ oN (.nil _)) aI Tryz.func170
def GV:List (Nat×Ann):=[(4,⟨[(0,.val (.slice bU)),(8,.val (.slice bU)),(9,.val tI),(10,.val tI)],[],[],aO _⟩),
 (200004,⟨[],[],[],fun _=>0⟩)]
def sQ:aA:=⟨[.val (.slice bU)],[.val tI],fun x=>mM x.1⟩
noncomputable def Ja:Cx:=⟨tpr,[(85,rN),(86,oC),(170,uE)],[]⟩
theorem Ia:aQ Ja GV none Tryz.f109 sQ:=by intro x;kernel_rfl
theorem Jt:ay tpr 109:=au Tryz.func109 rfl (by decide)
theorem JO:aF tpr 109 sQ:=aH Ia (.cons AH Ay (.cons yH yC (.cons K5 K1 (.nil _)))) aI Tryz.func109
def NL:List (Nat×Ann):=[(2,⟨[(1,.val .str),(7,.val (.slice an)),(8,.val tI),(9,.val tI)],[],[],aO _⟩),
 (200002,⟨[],[],[],fun _=>0⟩)]
def mw:aA:=⟨[.val (.slice an),.val .str],[.val tI],fun x=>nE x.1 x.2.1⟩
noncomputable def QJ:Cx:=⟨tpr,[],[]⟩
theorem Pw:aQ QJ NL none Tryz.f53 mw:=by intro x;kernel_rfl
theorem uL:ay tpr 53:=au Tryz.func53 rfl (by decide)
theorem uM:aF tpr 53 mw:=aH Pw (.nil _) aI Tryz.func53
def Sx:List (Nat×Ann):=[(3,⟨[(0,.val (.slice an)),(1,.val tI),(5,.val tI),(8,.val tI),(9,.val tI)],[],[],aO _⟩),
 (200003,⟨[],[],[],fun _=>0⟩)]
def FD:aA:=⟨[.val (.slice an),.val tI],[.val .bool],fun x=>GG x.1 x.2.1⟩
noncomputable def WT:Cx:=⟨tpr,[(53,mw)],[]⟩
theorem VG:aQ WT Sx none Tryz.f171 FD:=by intro x;kernel_rfl
theorem Xs:ay tpr 171:=au Tryz.func171 rfl (by decide)
theorem X2:aF tpr 171 FD:=aH VG (.cons uM uL (.nil _)) aI Tryz.func171
def YN:List (Nat×Ann):=[(2,⟨[(0,.val (.slice an)),(1,.val tI),(6,.own 3 tI)],[],[],aO _⟩),
 (200002,⟨[(6,.own 3 tI)],[],[],fun _=>0⟩)]
def MZ:aA:=⟨[.val (.slice an),.val tI],[.row 3 tI,.val .bool],fun x=>R5 x.1 x.2.1⟩
noncomputable def abS:Cx:=⟨tpr,[(53,mw)],[]⟩
theorem aaH:aQ abS YN none Tryz.f172 MZ:=by intro x;kernel_rfl
theorem ab8:ay tpr 172:=au Tryz.func172 rfl (by decide)
theorem acN:aF tpr 172 MZ:=aH aaH (.cons uM uL (.nil _)) aI Tryz.func172
def Sz:List (Nat×Ann):=[(2,⟨[(0,.val (.slice an)),(9,.val (.slice an)),(10,.val tI),(11,.val tI)],[],[],aO _⟩),
 (8,⟨[(0,.val (.slice an)),(27,.val tI),(28,.val tI)],[],[],aO _⟩),
 (14,⟨[(0,.val (.slice an)),(36,.val tI),(37,.val tI)],[],[],aO _⟩),
 (200002,⟨[(0,.val (.slice an))],[],[],fun _=>0⟩),
 (200008,⟨[(0,.val (.slice an))],[],[],fun _=>0⟩),
 (200014,⟨[],[],[],fun _=>0⟩)]
def FG:aA:=⟨[.val (.slice an)],[.val tI],fun x=>GH x.1⟩
noncomputable def WV:Cx:=⟨tpr,[(53,mw),(171,FD),(172,MZ)],[]⟩
theorem VI:aQ WV Sz none Tryz.f110 FG:=by intro x;kernel_rfl
theorem Xu:ay tpr 110:=au Tryz.func110 rfl (by decide)
theorem X4:aF tpr 110 FG:=aH VI (.cons uM uL (.cons X2 Xs (.cons acN ab8 (.nil _)))) aI Tryz.func110
def IZ:List (Nat×Ann):=[(8,⟨[(1,.ref 1 0),(28,.val (.slice an)),(29,.val tI),(30,.val tI)],[(1,[.val .str,.val .str,.val tI,.val (.slice an)])],[],aO _⟩),
 (200008,⟨[(1,.ref 1 0)],[(1,[.val .str,.val .str,.val tI,.val (.slice an)])],[],fun _=>0⟩)]
def wg:aA:=⟨[.val wq],[.val tI],fun x=>uQ x.1⟩
noncomputable def LN:Cx:=⟨tpr,[(85,rN),(86,oC),(107,HA),(108,Ck),(109,sQ),(110,FG)],[]⟩
theorem KT:aQ LN IZ none Tryz.f45 wg:=by intro x;kernel_rfl
theorem Mg:ay tpr 45:=au Tryz.func45 rfl (by decide)
theorem Mx:aF tpr 45 wg:=aH KT (.cons AH Ay (.cons yH yC (.cons Zo Zd (.cons TV Tu (.cons JO Jt (.cons X4 Xu (.nil _))))))) aI Tryz.func45
def I1:List (Nat×Ann):=[(4,⟨[(0,.val (.slice az)),(8,.val (.slice az)),(9,.val tI),(10,.val tI)],[],[],aO _⟩),
 (200004,⟨[],[],[],fun _=>0⟩)]
def wh:aA:=⟨[.val (.slice az)],[.val tI],fun x=>uR x.1⟩
noncomputable def LP:Cx:=⟨tpr,[(85,rN),(86,oC)],[]⟩
theorem KU:aQ LP I1 none Tryz.f46 wh:=by intro x;kernel_rfl
theorem Mh:ay tpr 46:=au Tryz.func46 rfl (by decide)
theorem My:aF tpr 46 wh:=aH KU (.cons AH Ay (.cons yH yC (.nil _))) aI Tryz.func46
def Bs:aA:=⟨[.val aY],[.val aG],fun x=>pN x.1⟩
noncomputable def WW:Cx:=⟨tpr,[(119,Kc)],[]⟩
theorem VJ:aQ WW [] none Tryz.f50 Bs:=by intro x;kernel_rfl
theorem Mj:ay tpr 50:=au Tryz.func50 rfl (by decide)
theorem MA:aF tpr 50 Bs:=aH VJ (.cons X6 Xw (.nil _)) aI Tryz.func50
def Qm:List (Nat×Ann):=[(2,⟨[(1,.val .str),(2,.val .str),(9,.val (.slice az)),(10,.val tI),(11,.val tI)],[],[],aO _⟩),
 (200002,⟨[],[],[],fun _=>0⟩)]
def DY:aA:=⟨[.val (.slice az),.val .str,.val .str],[.val tI],fun x=>En x.1 x.2.1 x.2.2.1⟩
noncomputable def Vv:Cx:=⟨tpr,[],[]⟩
theorem Td:aQ Vv Qm none Tryz.f113 DY:=by intro x;kernel_rfl
theorem VT:ay tpr 113:=au Tryz.func113 rfl (by decide)
theorem V4:aF tpr 113 DY:=aH Td (.nil _) aI Tryz.func113
def SA:List (Nat×Ann):=[(3,⟨[(0,.val (.slice an)),(1,.val (.slice az)),(6,.ref 6 0),(8,.ref 8 0),(16,.val (.slice tI)),(17,.val tI),(18,.val tI)],[(6,Qy),(8,C0)],[],aO _⟩),
 (7,⟨[(0,.val (.slice an)),(1,.val (.slice az)),(6,.ref 6 0),(8,.ref 8 0),(16,.val (.slice tI)),(17,.val tI),(18,.val tI),(34,.val (.slice bU)),(35,.val tI),(36,.val tI)],[(6,Qy),(8,C0)],[],aO _⟩),
 (200003,⟨[(6,.ref 6 0),(8,.ref 8 0)],[(6,Qy),(8,C0)],[],fun _=>0⟩),
 (200007,⟨[(0,.val (.slice an)),(1,.val (.slice az)),(6,.ref 6 0),(8,.ref 8 0),(16,.val (.slice tI)),(17,.val tI),(18,.val tI)],[(6,Qy),(8,C0)],[],fun _=>0⟩)]
def FH:aA:=⟨[.val (.slice an),.val (.slice az),.val (.slice tI)],[.val aG,.val .bool],fun x=>DH x.1 x.2.1 x.2.2.1⟩
noncomputable def WX:Cx:=⟨tpr,[(50,Bs),(112,Bu),(113,DY),(114,tV),(115,FJ),(116,CX)],[]⟩
theorem VK:aQ WX SA none Tryz.f48 FH:=by intro x;kernel_rfl
theorem Xv:ay tpr 48:=au Tryz.func48 rfl (by decide)
theorem X5:aF tpr 48 FH:=aH VK (.cons MA Mj (.cons JP Ju (.cons V4 VT (.cons DT DR (.cons PW PJ (.cons OJ OF (.nil _))))))) aI Tryz.func48
def O5:List (Nat×Ann):=[(3,⟨[(0,.val (.slice aG)),(3,.own 3 tI),(7,.val tI),(8,.val tI)],[],[],aO _⟩),
 (6,⟨[(0,.val (.slice aG)),(3,.own 3 tI),(4,.val tI),(5,.val tI),(7,.val tI),(8,.val tI)],[],[],aO _⟩),
 (200003,⟨[(3,.own 3 tI)],[],[],fun _=>0⟩),
 (200006,⟨[(0,.val (.slice aG)),(3,.own 3 tI),(4,.val tI),(5,.val tI),(7,.val tI),(8,.val tI)],[],[],fun _=>0⟩),
 (300006,⟨[(30,.val .bool)],[],[],fun _=>0⟩)]
def Cj:aA:=⟨[.val (.slice aG)],[.val (.slice tI)],fun x=>CG x.1⟩
noncomputable def SU:Cx:=⟨tpr,[(49,Ag),(176,Bw)],[]⟩
theorem QZ:aQ SU O5 none Tryz.f120 Cj:=by intro x;kernel_rfl
theorem Tt:ay tpr 120:=au Tryz.func120 rfl (by decide)
theorem TU:aF tpr 120 Cj:=aH QZ (.cons Gz Gp (.cons JQ Jv (.nil _))) aI Tryz.func120
def Sw:List (Nat×Ann):=[(4,⟨[(0,.val (.slice aG)),(3,.ref 3 0),(6,.rowR 13),(7,.own 91 aG),(15,.val (.slice tI)),(16,.val tI),(17,.val tI)],[(3,C0)],[.rowC 13 3 tI],aO _⟩),
 (7,⟨[(0,.val (.slice aG)),(3,.ref 3 0),(6,.rowR 13),(7,.own 91 aG),(9,.val tI),(10,.val tI),(15,.val (.slice tI)),(16,.val tI),(17,.val tI)],[(3,C0)],[.rowC 13 3 tI],aO _⟩),
 (100010,⟨[(0,.val (.slice aG)),(3,.ref 3 0),(6,.rowR 13),(7,.own 91 aG),(9,.val tI),(10,.val tI),(15,.val (.slice tI)),(16,.val tI),(17,.val tI)],[(3,C0)],[.rowC 13 3 tI],fun _=>0⟩),
 (200004,⟨[(6,.rowR 13),(7,.own 91 aG)],[],[.rowC 13 3 tI],fun _=>0⟩),
 (200007,⟨[(0,.val (.slice aG)),(3,.ref 3 0),(6,.rowR 13),(7,.own 91 aG),(9,.val tI),(10,.val tI),(15,.val (.slice tI)),(16,.val tI),(17,.val tI)],[(3,C0)],[.rowC 13 3 tI],fun _=>0⟩),
 (300007,⟨[(38,.val .bool)],[],[],fun _=>0⟩)]
def FC:aA:=⟨[.val (.slice aG),.val aG],[.val (.slice tI),.val tI],fun x=>GF x.1 x.2.1⟩
noncomputable def WS:Cx:=⟨tpr,[(49,Ag),(112,Bu),(120,Cj)],[]⟩
theorem VF:aQ WS Sw none Tryz.f51 FC:=by intro x;kernel_rfl
theorem Xr:ay tpr 51:=au Tryz.func51 rfl (by decide)
theorem X1:aF tpr 51 FC:=aH VF (.cons Gz Gp (.cons JP Ju (.cons TU Tt (.nil _)))) aI Tryz.func51
def Qn:List (Nat×Ann):=[(2,⟨[(0,.val (.slice an)),(3,.ref 3 0),(5,.val tI)],[(3,abQ)],[],aO _⟩),
 (200002,⟨[(0,.val (.slice an)),(3,.ref 3 0),(5,.val tI)],[(3,abQ)],[],fun _=>0⟩),
 (300002,⟨[(19,.val .bool)],[],[],fun _=>0⟩)]
def DZ:aA:=⟨[.val (.slice an),.val an],[.val (.slice an)],fun x=>Eo x.1 x.2.1⟩
noncomputable def Vw:Cx:=⟨tpr,[(52,gI),(121,rY)],[]⟩
theorem Te:aQ Vw Qn none Tryz.f54 DZ:=by intro x;kernel_rfl
theorem VU:ay tpr 54:=au Tryz.func54 rfl (by decide)
theorem V5:aF tpr 54 DZ:=aH Te (.cons mB mA (.cons Dw De (.nil _))) aI Tryz.func54
def Sv:List (Nat×Ann):=[(5,⟨[(0,.val (.slice an)),(1,.val (.slice az)),(3,.val .str),(4,.val tI),(7,.ref 7 0),(37,.val (.slice an)),(38,.val tI),(39,.val tI)],[(7,HS)],[],aO _⟩),
 (18,⟨[(0,.val (.slice an)),(1,.val (.slice az)),(3,.val .str),(4,.val tI),(7,.ref 7 0),(17,.own 91 aG),(58,.val tI),(59,.val tI)],[(7,HS)],[],aO _⟩),
 (26,⟨[(0,.val (.slice an)),(3,.val .str),(4,.val tI),(7,.ref 7 0),(17,.val (.slice aG)),(77,.val (.slice aG)),(78,.val tI),(79,.val tI)],[(7,HS)],[],aO _⟩),
 (37,⟨[(0,.val (.slice an)),(3,.val .str),(4,.val tI),(23,.val (.slice tI)),(24,.val tI),(26,.rowR 224528),(106,.val tI),(107,.val tI)],[],[.rowC 224528 57 an],aO _⟩),
 (42,⟨[(0,.val (.slice an)),(3,.val .str),(4,.val tI),(26,.val (.slice an)),(126,.val tI),(127,.val tI)],[],[],aO _⟩),
 (200005,⟨[(0,.val (.slice an)),(1,.val (.slice az)),(3,.val .str),(4,.val tI),(7,.ref 7 0)],[(7,HS)],[],fun _=>0⟩),
 (200018,⟨[(0,.val (.slice an)),(3,.val .str),(4,.val tI),(7,.ref 7 0),(17,.own 91 aG)],[(7,HS)],[],fun _=>0⟩),
 (200026,⟨[(0,.val (.slice an)),(3,.val .str),(4,.val tI),(7,.ref 7 0),(17,.val (.slice aG))],[(7,HS)],[],fun _=>0⟩),
 (200037,⟨[(0,.val (.slice an)),(3,.val .str),(4,.val tI),(24,.val tI),(26,.rowR 224528)],[],[.rowC 224528 57 an],fun _=>0⟩),
 (200042,⟨[(26,.val (.slice an))],[],[],fun _=>0⟩)]
def FB:aA:=⟨[.val (.slice an),.val (.slice az),.val aY,.val .str,.val tI],[.val (.slice an),.val tI],fun x=>GD x.1 x.2.1 x.2.2.1 x.2.2.2.1 x.2.2.2.2.1⟩
noncomputable def WR:Cx:=⟨tpr,[(5,nt),(28,yZ),(45,wg),(46,wh),(47,pU),(48,FH),(49,Ag),(50,Bs),(51,FC),(52,gI),(53,mw),(54,DZ)],[]⟩
theorem VE:aQ WR Sv none Tryz.f10 FB:=by intro x;kernel_rfl
theorem Xq:ay tpr 10:=au Tryz.func10 rfl (by decide)
theorem X0:aF tpr 10 FB:=aH VE (.cons wT wN (.cons KB Kx (.cons Mx Mg (.cons My Mh (.cons Dt Db (.cons X5 Xv (.cons Gz Gp (.cons MA Mj (.cons X1 Xr (.cons mB mA (.cons uM uL (.cons V5 VU (.nil _))))))))))))) aI Tryz.func10
def FA:aA:=⟨[],[.val .bool],fun x=>Mp ⟩
noncomputable def WQ:Cx:=⟨tpr,[(4,iK)],[]⟩
theorem VD:aQ WQ [] none Tryz.f11 FA:=by intro x;kernel_rfl
theorem Xp:ay tpr 11:=au Tryz.func11 rfl (by decide)
theorem XZ:aF tpr 11 FA:=aH VD (.cons mH mF (.nil _)) aI Tryz.func11
def BB:List (Nat×Ann):=[(300011,⟨[(14,.val .bool)],[],[],fun _=>0⟩)]
def rX:aA:=⟨[.val (.slice az),.val (.slice az),.val (.slice an),.val (.slice az),.val aY,.val .str,.val tI],[.val .bool],fun x=>jS x.1 x.2.1 x.2.2.1 x.2.2.2.1 x.2.2.2.2.1 x.2.2.2.2.2.1 x.2.2.2.2.2.2.1⟩
noncomputable def C3:Cx:=⟨tpr,[(4,iK),(5,nt),(6,Ch),(7,Hz),(8,wj),(9,Bq),(10,FB),(11,FA)],[]⟩
theorem BT:aQ C3 BB none Tryz.f3 rX:=by intro x;kernel_rfl
theorem Dq:aF tpr 3 rX:=aH BT (.cons mH mF (.cons wT wN (.cons TS Tq (.cons Zn Zc (.cons Mz Mi (.cons RP Rq (.cons X0 Xq (.cons XZ Xp (.nil _))))))))) aI Tryz.func3
end Go.Proofs.SeatU
end
