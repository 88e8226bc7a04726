/-
  Each function that the law reaches is as its plain model says, a further part. No condition.
-/
import Derived.Test.YtjlkkapojeldlabGreatDoorYi
import Derived.Test.YtjlkkapojeldlabGreatDoorYf
set_option maxRecDepth 100000
noncomputable section
namespace Go.Proofs.SeatU
open Go.Dn Go.Md Go.Proofs
def MD:List CK:=[.val .bool,.own 181 (.int .u32)]
def wg:List CK:=[.val .bool,.val (.slice (.int .u32))]
def Bt:List CK:=[.val .str,.val .str,.val tI,.val tI,.val tI,.val .bool,.val (.slice bL),.val (.slice b9),.val (.slice aY)]
def Sd:List CK:=[.val tI,.val tI,.val tI,.val (.slice .str)]
def zP:an:=⟨[.val .hnd,.val tI,.arR aE],[.val .bool],fun x=>vZ x.1 x.2.1 x.2.2.1⟩
noncomputable def HQ:Cx:=⟨tpr,[],[]⟩
theorem Ii:FB 90 zP:=fbk HQ [] none (by intro x;kernel_rfl) (.nil _) Tryz.func90
def vN:an:=⟨[.val .hnd,.arR aE],[.val tI],fun x=>zi x.1 x.2.1⟩
noncomputable def D6:Cx:=⟨tpr,[(119,uK)],[]⟩
theorem Ei:FB 135 vN:=fbk D6 [] none (by intro x;kernel_rfl) (cz Af (.nil _)) Tryz.func135
def vi:an:=⟨[.val .hnd,.val tI,.val tI,.ar aE],[.val tI],fun x=>uu x.1 x.2.1 x.2.2.1 x.2.2.2.1⟩
noncomputable def Lp:Cx:=⟨tpr,[],[]⟩
theorem BA:FB 92 vi:=fbk Lp [] none (by intro x;kernel_rfl) (.nil _) Tryz.func92
def zO:an:=⟨[.val .hnd,.val tI,.val tI,.ar aE],[.val tI],fun x=>Ct x.1 x.2.1 x.2.2.1 x.2.2.2.1⟩
noncomputable def HO:Cx:=⟨tpr,[(92,vi),(135,vN)],[]⟩
theorem Ih:FB 91 zO:=fbk HO [] none (by intro x;kernel_rfl) (cz BA (cz Ei (.nil _))) Tryz.func91
def Hl:List (Nat×Ann):=[(4,⟨[(1,.val (.slice cG)),(2,.val tI),(8,.own 111 .hnd),(9,.mapR 23),(24,.val (.slice eE)),(25,.val tI),(26,.val tI)],[],[.mapC 23 .str .hnd,.ar aE],aO _⟩),
 (14,⟨[(2,.val tI),(8,.own 111 .hnd),(9,.mapR 23),(13,.rowR 105744),(14,.own 3 tI),(49,.val (.slice cG)),(50,.val tI),(51,.val tI)],[],[.rowC 105744 111 .hnd,.mapC 23 .str .hnd,.ar aE],aO _⟩),
 (19,⟨[(2,.val tI),(8,.own 111 .hnd),(9,.mapR 23),(13,.rowR 105744),(14,.own 3 tI),(16,.ref 16 0),(17,.val tI),(49,.val (.slice cG)),(50,.val tI),(51,.val tI),(63,.val (.slice .str)),(64,.val tI),(65,.val tI)],[(16,Sd)],[.rowC 105744 111 .hnd,.mapC 23 .str .hnd,.ar aE],aO _⟩),
 (26,⟨[(2,.val tI),(8,.own 111 .hnd),(9,.mapR 23),(13,.rowR 105744),(14,.own 3 tI),(16,.ref 16 0),(17,.val tI),(49,.val (.slice cG)),(50,.val tI),(51,.val tI),(86,.rowR 105744),(87,.val tI),(88,.val tI)],[(16,Sd)],[.rowC 105744 111 .hnd,.mapC 23 .str .hnd,.ar aE],aO _⟩),
 (200004,⟨[(1,.val (.slice cG)),(2,.val tI),(8,.own 111 .hnd),(9,.mapR 23)],[],[.mapC 23 .str .hnd,.ar aE],fun _=>0⟩),
 (200014,⟨[(8,.own 111 .hnd),(14,.own 3 tI)],[],[.ar aE],fun _=>0⟩),
 (200019,⟨[(2,.val tI),(8,.own 111 .hnd),(9,.mapR 23),(13,.rowR 105744),(14,.own 3 tI),(16,.ref 16 0),(17,.val tI),(49,.val (.slice cG)),(50,.val tI),(51,.val tI)],[(16,Sd)],[.rowC 105744 111 .hnd,.mapC 23 .str .hnd,.ar aE],fun _=>0⟩),
 (200026,⟨[(2,.val tI),(8,.own 111 .hnd),(9,.mapR 23),(13,.rowR 105744),(14,.own 3 tI),(17,.val tI),(49,.val (.slice cG)),(50,.val tI),(51,.val tI)],[],[.rowC 105744 111 .hnd,.mapC 23 .str .hnd,.ar aE],fun _=>0⟩)]
def B9:an:=⟨[.val (.slice eE),.val (.slice cG),.val tI,.ar aE],[.val (.slice .hnd),.val (.slice tI)],fun x=>Gj x.1 x.2.1 x.2.2.1 x.2.2.2.1⟩
noncomputable def Lr:Cx:=⟨tpr,[(85,GF),(86,pM),(87,jP),(90,zP),(91,zO),(92,vi)],[]⟩
theorem LH:FB 59 B9:=fbk Lr Hl none (by intro x;kernel_rfl) (cz Ra (cz Ag (cz sr (cz Ii (cz Ih (cz BA (.nil _))))))) Tryz.func59
def J6:List (Nat×Ann):=[(4,⟨[(2,.ref 2 0),(3,.ref 3 0),(4,.ref 4 0),(5,.ref 5 0),(6,.rowR 12),(7,.val (.slice (.int .u32))),(8,.val tI)],[(2,wg),(3,wg),(4,MD),(5,MD)],[.rowC 12 181 (.int .u32)],aO _⟩),
 (200004,⟨[(4,.ref 4 0),(5,.ref 5 0),(6,.rowR 12),(7,.val (.slice (.int .u32)))],[(4,MD),(5,MD)],[.rowC 12 181 (.int .u32)],fun _=>0⟩)]
def CY:an:=⟨[.val cB,.val cB],[.val cB,.val cB],fun x=>Jo x.1 x.2.1⟩
noncomputable def ML:Cx:=⟨tpr,[(141,jU),(144,lg),(194,Jf),(195,vk),(196,At)],[]⟩
theorem M6:FB 179 CY:=fbk ML J6 none (by intro x;kernel_rfl) (cz lR (cz kR (cz SD (cz BD (cz Gs (.nil _)))))) Tryz.func179
def Hj:List (Nat×Ann):=[(2,⟨[(1,.val tI),(2,.ref 2 0),(4,.ref 4 0),(6,.ref 6 0)],[(2,wg),(4,[.val tI,.val tI]),(6,wg)],[],aO _⟩),
 (200002,⟨[(1,.val tI),(2,.ref 2 0),(4,.ref 4 0)],[(2,wg),(4,[.val tI,.val tI])],[],fun _=>0⟩)]
def B8:an:=⟨[.val cB,.val tI],[.val aS,.val tI],fun x=>Gi x.1 x.2.1⟩
noncomputable def Lo:Cx:=⟨tpr,[(97,uk),(158,tw),(159,rE),(160,ym),(179,CY)],[]⟩
theorem LG:FB 136 B8:=fbk Lo Hj none (by intro x;kernel_rfl) (cz yH (cz Aw (cz zu (cz Eg (cz M6 (.nil _)))))) Tryz.func136
def GG:an:=⟨[.val tI],[.val aS,.val tI],fun x=>Mx x.1⟩
noncomputable def QO:Cx:=⟨tpr,[(97,uk),(136,B8)],[]⟩
theorem Rb:FB 93 GG:=fbk QO [] none (by intro x;kernel_rfl) (cz yH (cz LG (.nil _))) Tryz.func93
def AH:an:=⟨[.val tI],[.val aS],fun x=>rZ x.1⟩
noncomputable def Kh:Cx:=⟨tpr,[(93,GG)],[]⟩
theorem Kq:FB 60 AH:=fbk Kh [] none (by intro x;kernel_rfl) (cz Rb (.nil _)) Tryz.func60
def QG:List (Nat×Ann):=[(7,⟨[(9,.val (.slice tI)),(10,.own 68 w9),(28,.val (.slice .hnd)),(29,.val tI),(30,.val tI)],[],[.ar aE],aO _⟩),
 (13,⟨[(10,.own 68 w9),(13,.own 48 aS),(58,.val (.slice tI)),(59,.val tI),(60,.val tI)],[],[.ar aE],aO _⟩),
 (200007,⟨[(9,.val (.slice tI)),(10,.own 68 w9)],[],[.ar aE],fun _=>0⟩),
 (200013,⟨[(10,.own 68 w9),(13,.own 48 aS)],[],[.ar aE],fun _=>0⟩)]
def KT:an:=⟨[.val (.slice eE),.val (.slice cG)],[.val (.slice w9),.val (.slice aS),.val tI],fun x=>RW x.1 x.2.1⟩
noncomputable def T9:Cx:=⟨tpr,[(58,AE),(59,B9),(60,AH)],[]⟩
theorem Up:FB 19 KT:=fbk T9 QG (some aE) (by intro x;kernel_rfl) (cz Kn (cz LH (cz Kq (.nil _)))) Tryz.func19
def Jd:an:=⟨[],[.val .bool],fun _=>IA⟩
noncomputable def Si:Cx:=⟨tpr,[(19,KT)],[]⟩
theorem SA:FB 8 Jd:=fbk Si [] none (by intro x;kernel_rfl) (cz Up (.nil _)) Tryz.func8
end Go.Proofs.SeatU
set_option maxRecDepth 100000
namespace Go.Proofs.SeatU
open Go.Dn Go.Md Go.Proofs
def KV:an:=⟨[.val (.slice .str)],[.val .str],fun x=>cC x.1⟩
noncomputable def Ub:Cx:=⟨tpr,[(29,w6)],[]⟩
theorem Su:rR Ub [] none Tryz.f22 KV:=by intro x;kernel_rfl
theorem UN:cM tpr 22 KV:=mq Su (.cons CP CI (.nil _)) pG Tryz.func22
def KU:an:=⟨[.val .str],[.val .str],fun x=>uW x.1⟩
noncomputable def Ua:Cx:=⟨tpr,[],[]⟩
theorem Ss:rR Ua [] none Tryz.f25 KU:=by intro x;kernel_rfl
theorem UM:cM tpr 25 KU:=mq Ss (.nil _) pG Tryz.func25
def Cf:an:=⟨[.val cB],[.val cB],fun x=>uM x.1⟩
noncomputable def Lx:Cx:=⟨tpr,[(141,jU)],[]⟩
theorem LL:FB 98 Cf:=fbk Lx [] none (by intro x;kernel_rfl) (cz lR (.nil _)) Tryz.func98
def ug:an:=⟨[.val (.slice (.int .u32))],[.row 181 (.int .u32)],fun x=>lE x.1⟩
noncomputable def Dh:Cx:=⟨tpr,[],[]⟩
theorem Dp:FB 142 ug:=fbk Dh [] none (by intro x;kernel_rfl) (.nil _) Tryz.func142
def EW:List (Nat×Ann):=[(100002,⟨[(0,.val (.int .u32)),(1,.val (.int .u32)),(2,.val (.int .u32))],[],[],fun _=>0⟩),
 (300001,⟨[(15,.val .bool)],[],[],fun _=>0⟩)]
def zS:an:=⟨[.val (.int .u32),.val (.int .u32),.val (.int .u32)],[.val (.int .u32),.val (.int .u32)],fun x=>qg x.1 x.2.1 x.2.2.1⟩
noncomputable def H6:Cx:=⟨tpr,[],[]⟩
theorem Ik:FB 143 zS:=fbk H6 EW none (by intro x;kernel_rfl) (.nil _) Tryz.func143
def Bo:List (Nat×Ann):=[(1,⟨[(0,.rowR 10250000),(2,.val tI),(3,.val tI)],[],[.rowC 10250000 5 (.int .u8)],aO _⟩),
 (200001,⟨[],[],[.rowC 10250000 5 (.int .u8)],fun _=>0⟩)]
def uj:an:=⟨[.mrow 5 (.int .u8)],[],fun x=>iY x.1⟩
noncomputable def Dj:Cx:=⟨tpr,[],[]⟩
theorem Dr:FB 145 uj:=fbk Dj Bo none (by intro x;kernel_rfl) (.nil _) Tryz.func145
def GO:List (Nat×Ann):=[(5,⟨[(1,.ref 1 0),(3,.own 5 (.int .u8)),(4,.own 181 (.int .u32))],[(1,wg)],[],fun x=>20*x.2.1.length+2⟩),
 (8,⟨[(1,.ref 1 0),(3,.own 5 (.int .u8)),(4,.own 181 (.int .u32)),(5,.val (.int .u32)),(6,.val tI)],[(1,wg)],[],aO _⟩),
 (200005,⟨[(1,.ref 1 0),(3,.own 5 (.int .u8))],[(1,wg)],[],fun _=>0⟩),
 (200008,⟨[(1,.ref 1 0),(3,.own 5 (.int .u8)),(4,.own 181 (.int .u32)),(5,.val (.int .u32))],[(1,wg)],[],fun _=>0⟩)]
def AJ:an:=⟨[.val cB],[.val .str],fun x=>sO x.1⟩
noncomputable def Kk:Cx:=⟨tpr,[(142,ug),(143,zS),(144,zU),(145,uj)],[]⟩
theorem Ks:FB 99 AJ:=fbk Kk GO none (by intro x;kernel_rfl) (cz Dp (cz Ik (.cons IQ Iu (cz Dr (.nil _))))) Tryz.func99
def AD:an:=⟨[.val .str,.val tI],[.val .str,.val .str],fun x=>rV x.1 x.2.1⟩
noncomputable def Kc:Cx:=⟨tpr,[(101,nx)],[]⟩
theorem Km:FB 96 AD:=fbk Kc [] none (by intro x;kernel_rfl) (.cons Az Ax (.nil _)) Tryz.func96
def EF:an:=⟨[.val aS],[.val .str],fun x=>tF x.1⟩
noncomputable def Oy:Cx:=⟨tpr,[],[]⟩
theorem ON:FB 100 EF:=fbk Oy [] none (by intro x;kernel_rfl) (.nil _) Tryz.func100
def EC:an:=⟨[.val aS],[.val .str,.val tI],fun x=>yB x.1⟩
noncomputable def Ov:Cx:=⟨tpr,[(71,dY),(96,AD),(97,uk),(98,Cf),(99,AJ),(100,EF)],[]⟩
theorem OL:FB 63 EC:=fbk Ov [] none (by intro x;kernel_rfl) (cz fh (cz Km (cz yH (cz LL (cz Ks (cz ON (.nil _))))))) Tryz.func63
def ED:an:=⟨[.val aS],[.val .str],fun x=>cR x.1⟩
noncomputable def Ow:Cx:=⟨tpr,[(63,EC)],[]⟩
theorem MP:rR Ow [] none Tryz.f23 ED:=by intro x;kernel_rfl
theorem Pg:cM tpr 23 ED:=mq MP (cz OL (.nil _)) pG Tryz.func23
def RS:List (Nat×Ann):=[(100006,⟨[(1,.ref 1 0),(4,.val .str)],[(1,[.val tI,.val tI])],[],fun _=>0⟩)]
def NW:an:=⟨[.val aS],[.val .str,.val tI],fun x=>JU x.1⟩
noncomputable def Ww:Cx:=⟨tpr,[(20,qm),(80,mO),(101,nx)],[]⟩
theorem WI:FB 64 NW:=fbk Ww RS none (by intro x;kernel_rfl) (.cons wI CG (cz qH (.cons Az Ax (.nil _)))) Tryz.func64
def yo:an:=⟨[.val aS],[.val .str],fun x=>nh x.1⟩
noncomputable def OC:Cx:=⟨tpr,[(64,NW)],[]⟩
theorem Ej:FB 28 yo:=fbk OC [] none (by intro x;kernel_rfl) (cz WI (.nil _)) Tryz.func28
def Cc:an:=⟨[.val .str,.val aY],[.val .str],fun x=>jT x.1 x.2.1⟩
noncomputable def Lw:Cx:=⟨tpr,[(28,yo)],[]⟩
theorem LK:FB 30 Cc:=fbk Lw [] none (by intro x;kernel_rfl) (cz Ej (.nil _)) Tryz.func30
def QI:List (Nat×Ann):=[(10,⟨[(1,.ref 1 0),(5,.val .str),(50,.val (.slice bL)),(51,.val tI),(52,.val tI)],[(1,Bt)],[],aO _⟩),
 (15,⟨[(1,.ref 1 0),(5,.val .str),(69,.val (.slice b9)),(70,.val tI),(71,.val tI)],[(1,Bt)],[],aO _⟩),
 (19,⟨[(1,.ref 1 0),(5,.val .str),(69,.val (.slice b9)),(70,.val tI),(71,.val tI),(102,.val (.slice aY)),(103,.val tI),(104,.val tI)],[(1,Bt)],[],aO _⟩),
 (25,⟨[(5,.val .str),(115,.val (.slice aY)),(116,.val tI),(117,.val tI)],[],[],aO _⟩),
 (100007,⟨[(1,.ref 1 0),(5,.val .str)],[(1,Bt)],[],fun _=>0⟩),
 (200010,⟨[(1,.ref 1 0),(5,.val .str)],[(1,Bt)],[],fun _=>0⟩),
 (200015,⟨[(1,.ref 1 0),(5,.val .str)],[(1,Bt)],[],fun _=>0⟩),
 (200019,⟨[(1,.ref 1 0),(5,.val .str),(69,.val (.slice b9)),(70,.val tI),(71,.val tI)],[(1,Bt)],[],fun _=>0⟩),
 (200025,⟨[(5,.val .str)],[],[],fun _=>0⟩)]
def KX:an:=⟨[.val b7],[.val .str,.val tI],fun x=>FR x.1⟩
noncomputable def Ud:Cx:=⟨tpr,[(16,xC),(20,qm),(28,yo),(29,w6),(30,Cc)],[]⟩
theorem Ur:FB 10 KX:=fbk Ud QI none (by intro x;kernel_rfl) (cz GW (.cons wI CG (cz Ej (.cons CP CI (cz LK (.nil _)))))) Tryz.func10
end Go.Proofs.SeatU
end
