/-
  Each function is as its plain model says, a further part. No condition.
-/
import Derived.Test.YtilaijcbckgmmabGreatDoorYw
import Derived.Test.YtilaijcbckgmmabGreatDoorYv
set_option maxRecDepth 100000
noncomputable section
namespace Go.Proofs.SeatA
open Go.Dn Go.Md Go.Proofs
def Je:List CK:=[.val .bool,.own 161 (.int .u32)]
def fH:List CK:=[.val .bool,.own 3 tI]
def Jf:List CK:=[.val .bool,.rowR 24]
def yM:List CK:=[.val .bool,.val (.slice (.int .u32))]
def nK:List CK:=[.val .bool,.val (.slice tI)]
def abk:List CK:=[.val .str,.val .str,.val .str,.val tI,.val tI,.val (.slice fh),.val (.slice az),.mapR 10250003,.rowR 10250004,.rowR 10250005,.val tI]
def Rq:List CK:=[.val .str,.val .str,.val .str,.val tI,.val tI,.val (.slice fh),.val (.slice az),.val tI,.val tI,.val (.slice aA),.map tI (.slice bg),.map tI bh,.own 107 de]
def PK:av:=⟨[.val aY,.val (.slice az),.val tI,.ar ck],[.box [.val aY,.val (.slice az),.map tI .hnd,.row 188 an,.row 235 cO,.val tI],.val tI],fun x=>KW x.1 x.2.1 x.2.2.1 x.2.2.2.1⟩
noncomputable def Ye:Cx:=⟨tpr,[(12,iN),(106,Ad),(107,tu),(108,se)],[]⟩
theorem Yw:FB 58 PK:=fbk Ye [] none (by intro x;kernel_rfl) (cz jD (cz FY (cz A8 (cz Aq (.nil _))))) Tryz.func58
def LK:av:=⟨[.val aY,.val (.slice az),.val tI,.ar ck],[.val .hnd,.val tI],fun x=>EZ x.1 x.2.1 x.2.2.1 x.2.2.2.1⟩
noncomputable def VC:Cx:=⟨tpr,[(12,iN),(106,Ad),(107,tu),(108,se)],[]⟩
theorem VO:FB 58 LK:=fbk VC [] none (by intro x;kernel_rfl) (cz jD (cz FY (cz A8 (cz Aq (.nil _))))) Tryz.func58
def D3:List (Nat×Ann):=[(3,⟨[(0,.ref 2000 0),(3,.own 130 .hnd),(11,.rowR 11),(12,.val tI),(13,.val tI)],[(2000,abk)],[.rowC 11 3 tI,.rowC 10250004 188 an,.rowC 10250005 235 cO,.mapC 10250003 tI .hnd],aN _⟩),
 (200003,⟨[(3,.own 130 .hnd)],[(2000,abk)],[.rowC 10250004 188 an,.rowC 10250005 235 cO,.mapC 10250003 tI .hnd],fun _=>0⟩)]
def wP:av:=⟨[.box [.val aY,.val (.slice az),.map tI .hnd,.row 188 an,.row 235 cO,.val tI]],[.row 130 .hnd],fun x=>mo x.1⟩
noncomputable def FM:Cx:=⟨tpr,[],[(109,Zp),(110,Zq)]⟩
theorem F5:FB 59 wP:=fbk FM D3 none (by intro x;kernel_rfl) (.Wf aec ad8 (.Wf aed ad9 (.nil _))) Tryz.func59
def Mg:List (Nat×Ann):=[(6,⟨[(10,.own 56 bg),(24,.rowR 60688),(25,.val tI),(26,.val tI)],[],[.rowC 60688 130 .hnd,.ar ck],aN _⟩),
 (200006,⟨[(10,.own 56 bg)],[],[.ar ck],fun _=>0⟩)]
def Ac:av:=⟨[.val aY,.val (.slice az),.val tI],[.val (.slice bg),.val tI],fun x=>tP x.1 x.2.1 x.2.2.1⟩
noncomputable def Qj:Cx:=⟨tpr,[(58,LK),(58,PK),(59,wP),(60,uU)],[]⟩
theorem FX:FB 26 Ac:=fbk Qj Mg (some ck) (by intro x;kernel_rfl) (cz VO (cz Yw (cz F5 (cz BZ (.nil _))))) Tryz.func26
def ot:av:=⟨[.box [.val aY,.val (.slice az),.val an,.val (.slice aA),.map tI (.slice bg),.map tI bh,.row 107 de],.val tI],[.val (.slice bg)],fun x=>jc x.1 x.2.1⟩
noncomputable def FK:Cx:=⟨tpr,[(26,Ac)],[]⟩
theorem vU:FB 14 ot:=fbk FK [] none (by intro x;kernel_rfl) (cz FX (.nil _)) Tryz.func14
def yZ:av:=⟨[.val bg,.val (.ptr c9)],[.val .bool],fun x=>uL x.1 x.2.1⟩
noncomputable def Im:Cx:=⟨tpr,[],[]⟩
theorem Iu:FB 78 yZ:=fbk Im [] none (by intro x;kernel_rfl) (.nil _) Tryz.func78
def AL:List (Nat×Ann):=[(2,⟨[(0,.val (.slice bg)),(1,.val (.clo 78 (.ptr c9))),(7,.val tI),(8,.val tI)],[],[],aN _⟩),
 (200002,⟨[],[],[],fun _=>0⟩)]
def qS:av:=⟨[.val (.slice bg),.val (.clo 78 (.ptr c9))],[.val tI],fun x=>iP x.1 x.2.1⟩
noncomputable def BV:Cx:=⟨tpr,[(78,yZ)],[]⟩
theorem BW:FB 77 qS:=fbk BV AL none (by intro x;kernel_rfl) (cz Iu (.nil _)) Tryz.func77
def Ke:List (Nat×Ann):=[(3,⟨[(2,.ref 2 0),(3,.ref 3 0),(4,.ref 4 0),(5,.rowR 18),(20,.val (.slice (.int .u32))),(21,.val tI),(22,.val tI)],[(2,yM),(3,yM),(4,Je)],[.rowC 18 161 (.int .u32)],aN _⟩),
 (7,⟨[(2,.ref 2 0),(3,.ref 3 0),(4,.ref 4 0),(5,.rowR 18),(6,.val tI),(7,.val (.int .u32)),(8,.val (.int .u64)),(20,.val (.slice (.int .u32))),(21,.val tI),(22,.val tI),(28,.val (.slice (.int .u32))),(29,.val tI),(30,.val tI)],[(2,yM),(3,yM),(4,Je)],[.rowC 18 161 (.int .u32)],aN _⟩),
 (200003,⟨[(2,.ref 2 0),(3,.ref 3 0),(4,.ref 4 0),(5,.rowR 18)],[(2,yM),(3,yM),(4,Je)],[.rowC 18 161 (.int .u32)],fun _=>0⟩),
 (200007,⟨[(2,.ref 2 0),(3,.ref 3 0),(4,.ref 4 0),(5,.rowR 18),(6,.val tI),(8,.val (.int .u64)),(20,.val (.slice (.int .u32))),(21,.val tI),(22,.val tI)],[(2,yM),(3,yM),(4,Je)],[.rowC 18 161 (.int .u32)],fun _=>0⟩)]
def lT:av:=⟨[.val bh,.val bh],[.val bh],fun x=>gd x.1 x.2.1⟩
noncomputable def MS:Cx:=⟨tpr,[(82,pF)],[]⟩
theorem pW:FB 79 lT:=fbk MS Ke none (by intro x;kernel_rfl) (cz tN (.nil _)) Tryz.func79
def P7:List (Nat×Ann):=[(3,⟨[(2,.ref 2 0),(3,.ref 3 0),(5,.val tI),(6,.val tI)],[(2,Je),(3,yM)],[],aN _⟩),
 (200003,⟨[(2,.ref 2 0),(3,.ref 3 0)],[(2,Je),(3,yM)],[],fun _=>0⟩)]
def JV:av:=⟨[.val tI],[.val bh],fun x=>Dc x.1⟩
noncomputable def TE:Cx:=⟨tpr,[(45,nC),(79,lT)],[]⟩
theorem TR:FB 140 JV:=fbk TE P7 none (by intro x;kernel_rfl) (cz qE (cz pW (.nil _))) Tryz.func140
def GM:av:=⟨[.val an,.val tI],[.val bh],fun x=>zj x.1 x.2.1⟩
noncomputable def Qe:Cx:=⟨tpr,[(45,nC),(79,lT),(140,JV)],[]⟩
theorem Qt:FB 86 GM:=fbk Qe [] none (by intro x;kernel_rfl) (cz qE (cz pW (cz TR (.nil _)))) Tryz.func86
def vp:av:=⟨[.val an],[.val bh],fun x=>jw x.1⟩
noncomputable def Rv:Cx:=⟨tpr,[(86,GM)],[]⟩
theorem A7:FB 43 vp:=fbk Rv [] none (by intro x;kernel_rfl) (cz Qt (.nil _)) Tryz.func43
def NZ:av:=⟨[.val bh,.val tI],[.val bh],fun x=>Di x.1 x.2.1⟩
noncomputable def WE:Cx:=⟨tpr,[(45,nC),(79,lT)],[]⟩
theorem W3:FB 81 NZ:=fbk WE [] none (by intro x;kernel_rfl) (cz qE (cz pW (.nil _))) Tryz.func81
def ru:av:=⟨[.val bh,.val bh],[.val bh],fun x=>nJ x.1 x.2.1⟩
noncomputable def OZ:Cx:=⟨tpr,[(82,pF),(83,JW),(84,Ah),(85,Er)],[]⟩
theorem yy:FB 42 ru:=fbk OZ [] none (by intro x;kernel_rfl) (cz tN (cz TS (cz Gc (cz LC (.nil _))))) Tryz.func42
def rq:av:=⟨[.val bh,.val bh],[.val bh],fun x=>nI x.1 x.2.1⟩
noncomputable def OY:Cx:=⟨tpr,[(42,ru),(44,wW)],[]⟩
theorem yx:FB 16 rq:=fbk OY [] none (by intro x;kernel_rfl) (cz yy (cz Dt (.nil _))) Tryz.func16
def BP:av:=⟨[.val bh,.val bh],[.val tI],fun x=>mX x.1 x.2.1⟩
noncomputable def Kn:Cx:=⟨tpr,[(16,rq),(17,jY)],[]⟩
theorem KC:FB 80 BP:=fbk Kn [] none (by intro x;kernel_rfl) (cz yx (cz mN (.nil _))) Tryz.func80
def BL:av:=⟨[.val bg],[.val bh],fun x=>An x.1⟩
noncomputable def WD:Cx:=⟨tpr,[(16,rq),(43,vp)],[]⟩
theorem FW:FB 15 BL:=fbk WD [] none (by intro x;kernel_rfl) (cz yx (cz A7 (.nil _))) Tryz.func15
def BM:av:=⟨[.box [.val aY,.val (.slice az),.val an,.val (.slice aA),.map tI (.slice bg),.map tI bh,.row 107 de],.val tI,.val c9],[.val tI],fun x=>qV x.1 x.2.1 x.2.2.1⟩
noncomputable def Kl:Cx:=⟨tpr,[(14,ot),(15,BL),(17,jY),(42,ru),(43,vp),(45,nC),(77,qS),(79,lT),(80,BP),(81,NZ)],[]⟩
theorem Kx:FB 41 BM:=fbk Kl [] none (by intro x;kernel_rfl) (cz vU (cz FW (cz mN (cz yy (cz A7 (cz qE (cz BW (cz pW (cz KC (cz W3 (.nil _))))))))))) Tryz.func41
def EG:List (Nat×Ann):=[(8,⟨[(2,.ref 2 0),(4,.ref 4 0),(5,.fn 38 [2,3]),(40,.val (.slice c9)),(41,.val tI),(42,.val tI)],[(2,[.ref 2000 0]),(3,[.val tI]),(4,[.val .str,.val .str,.val tI,.val tI,.val tI,.val .bool,.val (.slice cE),.val (.slice c9),.val (.slice dL)]),(2000,Rq)],[],aN _⟩),
 (200008,⟨[],[(2000,Rq)],[],fun _=>0⟩)]
def xY:av:=⟨[.box [.val aY,.val (.slice az),.val an,.val (.slice aA),.map tI (.slice bg),.map tI bh,.row 107 de],.val tI],[],fun x=>jy x.1 x.2.1⟩
noncomputable def Hj:Cx:=⟨tpr,[(39,mU),(41,BM),(42,ru),(43,vp)],[(38,abP)]⟩
theorem Hl:FB 13 xY:=fbk Hj EG none (by intro x;kernel_rfl) (.Wf aeJ aeI (cz yq (cz Kx (cz yy (cz A7 (.nil _)))))) Tryz.func13
def Me:List (Nat×Ann):=[(7,⟨[(4,.val tI),(12,.ref 27 0),(36,.val (.slice aA)),(37,.val tI),(38,.val tI)],[(27,Rq)],[],aN _⟩),
 (14,⟨[(12,.ref 27 0),(16,.own 42 lE),(53,.val (.slice bg)),(54,.val tI),(55,.val tI)],[(27,[.val .str,.val .str,.val .str,.val tI,.val tI,.val (.slice fh),.val (.slice az),.val tI,.val tI,.val (.slice aA),.mapR 118549,.mapR 118550,.rowR 118551])],[.rowC 118551 107 de,.mapC 118549 tI (.slice bg),.mapC 118550 tI bh],aN _⟩),
 (200007,⟨[(4,.val tI),(12,.ref 27 0)],[(27,Rq)],[],fun _=>0⟩),
 (200014,⟨[(16,.own 42 lE)],[],[],fun _=>0⟩)]
def GN:av:=⟨[.val aY,.val (.slice az),.val an,.val (.slice aA),.val tI],[.row 42 lE,.val tI],fun x=>zk x.1 x.2.1 x.2.2.1 x.2.2.2.1 x.2.2.2.2.1⟩
noncomputable def Qf:Cx:=⟨tpr,[(11,B8),(11,EA),(12,iN),(13,xY),(14,ot),(15,BL),(16,rq),(17,jY),(18,oo)],[]⟩
theorem Qu:FB 4 GN:=fbk Qf Me none (by intro x;kernel_rfl) (cz L6 (cz O7 (cz jD (cz Hl (cz vU (cz FW (cz yx (cz mN (cz sO (.nil _)))))))))) Tryz.func4
def Tj:List (Nat×Ann):=[(4,⟨[(0,.val .str),(23,.val tI),(24,.val tI)],[],[],aN _⟩),
 (200004,⟨[],[],[],fun _=>0⟩)]
def N5:av:=⟨[.val .str],[.val .bool],fun x=>NT x.1⟩
noncomputable def WM:Cx:=⟨tpr,[],[]⟩
theorem W6:FB 66 N5:=fbk WM Tj none (by intro x;kernel_rfl) (.nil _) Tryz.func66
def ou:av:=⟨[.val .str],[.val .bool],fun x=>eX x.1⟩
noncomputable def WK:Cx:=⟨tpr,[(66,N5)],[]⟩
theorem rJ:FB 30 ou:=fbk WK [] none (by intro x;kernel_rfl) (cz W6 (.nil _)) Tryz.func30
def GU:av:=⟨[.val tI,.val tI,.val tI],[.val .bool],fun x=>Az x.1 x.2.1 x.2.2.1⟩
noncomputable def WN:Cx:=⟨tpr,[],[]⟩
theorem Na:FB 95 GU:=fbk WN [] none (by intro x;kernel_rfl) (.nil _) Tryz.func95
def PT:av:=⟨[.val tI],[.val .bool],fun x=>QW x.1⟩
noncomputable def Ym:Cx:=⟨tpr,[(95,GU)],[]⟩
theorem YC:FB 51 PT:=fbk Ym [] none (by intro x;kernel_rfl) (cz Na (.nil _)) Tryz.func51
def qR:av:=⟨[.val tI],[.val .bool],fun x=>td x.1⟩
noncomputable def Yi:Cx:=⟨tpr,[(51,PT)],[]⟩
theorem uz:FB 20 qR:=fbk Yi [] none (by intro x;kernel_rfl) (cz YC (.nil _)) Tryz.func20
def Tm:List (Nat×Ann):=[(300001,⟨[(6,.val .bool)],[],[],fun _=>0⟩)]
def si:av:=⟨[.val tI,.val tI,.val tI],[.val .bool],fun x=>lQ x.1 x.2.1 x.2.2.1⟩
noncomputable def WS:Cx:=⟨tpr,[],[]⟩
theorem vV:FB 89 si:=fbk WS Tm none (by intro x;kernel_rfl) (.nil _) Tryz.func89
def lR:av:=⟨[.val an],[.val tI],fun x=>iB x.1⟩
noncomputable def MP:Cx:=⟨tpr,[(95,GU)],[]⟩
theorem pV:FB 124 lR:=fbk MP [] none (by intro x;kernel_rfl) (cz Na (.nil _)) Tryz.func124
def IW:av:=⟨[.val tI],[.val an],fun x=>Cr x.1⟩
noncomputable def Yq:Cx:=⟨tpr,[],[]⟩
theorem Pv:FB 176 IW:=fbk Yq [] none (by intro x;kernel_rfl) (.nil _) Tryz.func176
def ZW:List (Nat×Ann):=[(2,⟨[(0,.val tI),(2,.ref 2 0),(3,.ref 3 0)],[(2,fH),(3,fH)],[],aN _⟩),
 (200002,⟨[(2,.ref 2 0),(3,.ref 3 0)],[(2,fH),(3,fH)],[],fun _=>0⟩)]
def GS:av:=⟨[.val tI],[.val bn],fun x=>tg x.1⟩
noncomputable def acR:Cx:=⟨tpr,[],[]⟩
theorem Kz:FB 99 GS:=fbk acR ZW none (by intro x;kernel_rfl) (.nil _) Tryz.func99
def Rg:List (Nat×Ann):=[(1,⟨[(1,.ref 1 0),(2,.ref 2 0)],[(1,nK),(2,fH)],[],aN _⟩),
 (200001,⟨[(1,.ref 1 0),(2,.ref 2 0)],[(1,nK),(2,fH)],[],fun _=>0⟩)]
def Ep:av:=⟨[.val bn],[.val bn],fun x=>qv x.1⟩
noncomputable def VI:Cx:=⟨tpr,[],[]⟩
theorem LB:FB 177 Ep:=fbk VI Rg none (by intro x;kernel_rfl) (.nil _) Tryz.func177
def Rf:List (Nat×Ann):=[(3,⟨[(3,.ref 3 0),(4,.ref 4 0),(5,.ref 5 0),(27,.val (.slice tI)),(28,.val tI),(29,.val tI)],[(3,nK),(4,fH),(5,Jf)],[.rowC 24 3 tI],aN _⟩),
 (6,⟨[(3,.ref 3 0),(4,.ref 4 0),(5,.ref 5 0),(6,.val tI),(7,.val tI),(27,.val (.slice tI)),(28,.val tI),(29,.val tI),(35,.val (.slice tI)),(36,.val tI),(37,.val tI)],[(3,nK),(4,fH),(5,Jf)],[.rowC 24 3 tI],aN _⟩),
 (14,⟨[(4,.ref 4 0),(5,.ref 5 0),(86,.val tI),(87,.val tI)],[(4,fH),(5,Jf)],[.rowC 24 3 tI],aN _⟩),
 (200003,⟨[(4,.ref 4 0),(5,.ref 5 0)],[(4,fH),(5,Jf)],[.rowC 24 3 tI],fun _=>0⟩),
 (200006,⟨[(3,.ref 3 0),(4,.ref 4 0),(5,.ref 5 0),(27,.val (.slice tI)),(28,.val tI),(29,.val tI)],[(3,nK),(4,fH),(5,Jf)],[.rowC 24 3 tI],fun _=>0⟩),
 (200014,⟨[(4,.ref 4 0),(5,.ref 5 0)],[(4,fH),(5,Jf)],[.rowC 24 3 tI],fun _=>0⟩)]
def zK:av:=⟨[.val bn,.val bn],[.val bn],fun x=>lD x.1 x.2.1⟩
noncomputable def VH:Cx:=⟨tpr,[(177,Ep)],[]⟩
theorem Ec:FB 144 zK:=fbk VH Rf none (by intro x;kernel_rfl) (cz LB (.nil _)) Tryz.func144
def Vt:List (Nat×Ann):=[(3,⟨[(2,.ref 2 0),(3,.ref 3 0),(5,.val tI),(6,.val tI)],[(2,fH),(3,nK)],[],aN _⟩),
 (200003,⟨[(2,.ref 2 0),(3,.ref 3 0)],[(2,fH),(3,nK)],[],fun _=>0⟩)]
def PR:av:=⟨[.val tI],[.val bn],fun x=>K9 x.1⟩
noncomputable def Yk:Cx:=⟨tpr,[(99,GS),(144,zK)],[]⟩
theorem YA:FB 146 PR:=fbk Yk Vt none (by intro x;kernel_rfl) (cz Kz (cz Ec (.nil _))) Tryz.func146
def Li:av:=⟨[.val an,.val tI],[.val bn],fun x=>Bq x.1 x.2.1⟩
noncomputable def acQ:Cx:=⟨tpr,[(99,GS),(144,zK),(146,PR)],[]⟩
theorem Qy:FB 98 Li:=fbk acQ [] none (by intro x;kernel_rfl) (cz Kz (cz Ec (cz YA (.nil _)))) Tryz.func98
def PO:av:=⟨[.val bn],[.val bn],fun x=>K8 x.1⟩
noncomputable def Yj:Cx:=⟨tpr,[],[]⟩
theorem Yz:FB 180 PO:=fbk Yj [] none (by intro x;kernel_rfl) (.nil _) Tryz.func180
def Vu:List (Nat×Ann):=[(4,⟨[(0,.val (.slice tI)),(1,.val (.slice tI)),(5,.val tI)],[],[],aN _⟩),
 (200004,⟨[],[],[],fun _=>0⟩)]
def PU:av:=⟨[.val (.slice tI),.val (.slice tI)],[.val tI],fun x=>La x.1 x.2.1⟩
noncomputable def Yn:Cx:=⟨tpr,[],[]⟩
theorem YD:FB 203 PU:=fbk Yn Vu none (by intro x;kernel_rfl) (.nil _) Tryz.func203
def PS:av:=⟨[.val (.slice tI),.val tI],[.val tI],fun x=>Cq x.1 x.2.1⟩
noncomputable def Yl:Cx:=⟨tpr,[],[]⟩
theorem YB:FB 204 PS:=fbk Yl [] none (by intro x;kernel_rfl) (.nil _) Tryz.func204
def Wp:List (Nat×Ann):=[(7,⟨[(2,.ref 2 0),(3,.ref 3 0),(4,.ref 4 0),(5,.ref 5 0),(6,.val tI),(31,.val tI),(32,.val tI)],[(2,nK),(3,nK),(4,fH),(5,fH)],[],aN _⟩),
 (19,⟨[(2,.ref 2 0),(3,.ref 3 0),(4,.ref 4 0),(9,.ref 9 0),(10,.val tI),(70,.val tI),(71,.val tI)],[(2,nK),(3,nK),(4,fH),(9,fH)],[],aN _⟩),
 (100003,⟨[(2,.ref 2 0),(3,.ref 3 0),(4,.ref 4 0)],[(2,nK),(3,nK),(4,fH)],[],fun _=>0⟩),
 (100012,⟨[(2,.ref 2 0),(3,.ref 3 0),(4,.ref 4 0),(5,.ref 5 0),(6,.val tI),(8,.val tI),(31,.val tI),(32,.val tI)],[(2,nK),(3,nK),(4,fH),(5,fH)],[],fun _=>0⟩),
 (200007,⟨[(4,.ref 4 0),(5,.ref 5 0)],[(4,fH),(5,fH)],[],fun _=>0⟩),
 (200019,⟨[(4,.ref 4 0),(9,.ref 9 0)],[(4,fH),(9,fH)],[],fun _=>0⟩)]
def SU:av:=⟨[.val bn,.val bn],[.val bn],fun x=>Oy x.1 x.2.1⟩
noncomputable def Z6:Cx:=⟨tpr,[(177,Ep),(203,PU),(204,PS)],[]⟩
theorem aag:FB 179 SU:=fbk Z6 Wp none (by intro x;kernel_rfl) (cz LB (cz YD (cz YB (.nil _)))) Tryz.func179
def SW:av:=⟨[.val bn],[.val tI],fun x=>Oz x.1⟩
noncomputable def Z7:Cx:=⟨tpr,[],[]⟩
theorem aah:FB 178 SW:=fbk Z7 [] none (by intro x;kernel_rfl) (.nil _) Tryz.func178
def HW:av:=⟨[.val bn,.val bn],[.val tI],fun x=>Gu x.1 x.2.1⟩
noncomputable def abp:Cx:=⟨tpr,[(178,SW),(179,SU),(180,PO)],[]⟩
theorem M9:FB 145 HW:=fbk abp [] none (by intro x;kernel_rfl) (cz aah (cz aag (cz Yz (.nil _)))) Tryz.func145
def HZ:av:=⟨[.val an,.val an],[.val tI],fun x=>wE x.1 x.2.1⟩
noncomputable def abr:Cx:=⟨tpr,[(98,Li),(145,HW)],[]⟩
theorem Nc:FB 150 HZ:=fbk abr [] none (by intro x;kernel_rfl) (cz Qy (cz M9 (.nil _))) Tryz.func150
def I8:List (Nat×Ann):=[(300001,⟨[(32,.val .bool)],[],[],fun _=>0⟩)]
def uW:av:=⟨[.val an,.val .bool],[.val tI],fun x=>oa x.1 x.2.1⟩
noncomputable def L5:Cx:=⟨tpr,[(124,lR),(150,HZ),(176,IW)],[]⟩
theorem B4:FB 141 uW:=fbk L5 I8 none (by intro x;kernel_rfl) (cz pV (cz Nc (cz Pv (.nil _)))) Tryz.func141
def Ag:av:=⟨[.val an],[.val tI],fun x=>um x.1⟩
noncomputable def Qo:Cx:=⟨tpr,[(124,lR),(150,HZ),(176,IW)],[]⟩
theorem F8:FB 142 Ag:=fbk Qo [] none (by intro x;kernel_rfl) (cz pV (cz Nc (cz Pv (.nil _)))) Tryz.func142
def OH:List (Nat×Ann):=[(300004,⟨[(16,.val .bool)],[],[],fun _=>0⟩)]
def HY:av:=⟨[.val aY,.val tI],[.val tI],fun x=>BD x.1 x.2.1⟩
noncomputable def RE:Cx:=⟨tpr,[(30,ou),(89,si),(141,uW),(142,Ag)],[]⟩
theorem RY:FB 90 HY:=fbk RE OH none (by intro x;kernel_rfl) (cz rJ (cz vV (cz B4 (cz F8 (.nil _))))) Tryz.func90
def Mi:List (Nat×Ann):=[(12,⟨[(1,.ref 1 0),(51,.val tI),(52,.val tI)],[(1,[.val .str,.val .str,.val .str,.val tI,.val tI,.val (.slice fh)])],[],aN _⟩),
 (200012,⟨[],[],[],fun _=>0⟩)]
def Af:av:=⟨[.val aY],[.val tI],fun x=>uk x.1⟩
noncomputable def Qn:Cx:=⟨tpr,[(20,qR),(30,ou),(89,si),(90,HY)],[]⟩
theorem F7:FB 48 Af:=fbk Qn Mi none (by intro x;kernel_rfl) (cz uz (cz rJ (cz vV (cz RY (.nil _))))) Tryz.func48
def JU:av:=⟨[.val tI],[.val .bool],fun x=>C6 x.1⟩
noncomputable def TC:Cx:=⟨tpr,[(89,si)],[]⟩
theorem TQ:FB 91 JU:=fbk TC [] none (by intro x;kernel_rfl) (cz vV (.nil _)) Tryz.func91
def Tl:List (Nat×Ann):=[(100005,⟨[(2,.ref 2 0),(3,.val tI),(7,.val .bool)],[(2,[.val .bool,.val .bool,.val .bool,.val .bool,.val .bool])],[],fun _=>0⟩)]
def GV:av:=⟨[.val tI],[.val IX],fun x=>HP x.1⟩
noncomputable def WR:Cx:=⟨tpr,[],[]⟩
theorem Nd:FB 143 GV:=fbk WR Tl none (by intro x;kernel_rfl) (.nil _) Tryz.func143
def LU:List (Nat×Ann):=[(300002,⟨[(8,.val .bool)],[],[],fun _=>0⟩),
 (300004,⟨[(20,.val .bool)],[],[],fun _=>0⟩),
 (300006,⟨[(29,.val .bool)],[],[],fun _=>0⟩),
 (300008,⟨[(38,.val .bool)],[],[],fun _=>0⟩),
 (300010,⟨[(53,.val .bool)],[],[],fun _=>0⟩),
 (300013,⟨[(114,.val .bool)],[],[],fun _=>0⟩)]
def EE:av:=⟨[.val az],[.val tI],fun x=>xS x.1⟩
noncomputable def OX:Cx:=⟨tpr,[(20,qR),(30,ou),(89,si),(141,uW),(142,Ag),(143,GV)],[]⟩
theorem Pc:FB 92 EE:=fbk OX LU none (by intro x;kernel_rfl) (cz uz (cz rJ (cz vV (cz B4 (cz F8 (cz Nd (.nil _))))))) Tryz.func92
def OI:List (Nat×Ann):=[(2,⟨[(22,.rowR 22),(23,.val tI),(24,.val tI)],[],[.rowC 22 3 tI],aN _⟩),
 (200002,⟨[],[],[],fun _=>0⟩)]
def H6:av:=⟨[.val az,.val az],[.val tI],fun x=>wF x.1 x.2.1⟩
noncomputable def RF:Cx:=⟨tpr,[],[]⟩
theorem RZ:FB 93 H6:=fbk RF OI none (by intro x;kernel_rfl) (.nil _) Tryz.func93
def Tk:List (Nat×Ann):=[(3,⟨[(1,.val tI),(5,.val tI),(8,.val (.slice az)),(9,.val tI),(10,.val tI)],[],[],aN _⟩),
 (200003,⟨[(5,.val tI)],[],[],fun _=>0⟩)]
def N7:av:=⟨[.val (.slice az),.val tI],[.val tI],fun x=>HK x.1 x.2.1⟩
noncomputable def WQ:Cx:=⟨tpr,[],[]⟩
theorem W8:FB 94 N7:=fbk WQ Tk none (by intro x;kernel_rfl) (.nil _) Tryz.func94
end Go.Proofs.SeatA
end
