/-
  Each function that the laws reach is as its plain model says, a further part. No condition.
-/
import Derived.Test.YtcpmaicaibdafaaGreatDoorWz
set_option linter.all false
set_option maxRecDepth 100000
noncomputable section
namespace Go.Proofs.SeatA
open Go.Dn Go.Md Go.Proofs
def C4:List CK:=[.val .bool,.val (.slice tI)]
def Q4:List CK:=[.val .str,.val .str,.val .str,.val tI,.val tI,.val (.slice eS),.val (.slice ay),.own 241 bn,.own 244 an]
def aaU:List CK:=[.val .str,.val .str,.val .str,.val tI,.val tI,.val (.slice eS),.val (.slice ay),.rowR 10250003,.rowR 10250004]
def Wf:List CK:=[.val .str,.val .str,.val .str,.val tI,.val tI,.val (.slice eS),.val (.slice ay),.rowR 4000,.rowR 10250004]
def IQ:List CK:=[.val .str,.val .str,.val .str,.val tI,.val tI,.val (.slice eS)]
def yu:List CK:=[.val .str,.val .str,.val tI,.val tI,.val tI,.val .bool,.val (.slice gp),.val (.slice fB),.val (.slice jy)]
def aaV:List CK:=[.val tI,.val .str,.val .str,.val tI,.val tI,.val tI,.val tI,.val tI,.val tI,.val tI,.val tI,.val tI,.val tI,.val tI,.val tI,.val tI,.val tI,.val tI,.val (.slice cI)]
def Q5:List CK:=[.val tI,.val .str,.val .str,.val tI,.val tI,.val tI,.val tI,.val tI,.val tI,.val tI,.val tI,.val tI,.val tI,.val tI,.val tI,.val tI]
def Fo:List CK:=[.val tI,.val tI,.val tI,.val tI,.val tI,.val .str,.val tI,.val tI,.val .str,.val tI,.val tI,.val tI,.val tI]
def yx:List CK:=[.val tI,.val tI]
def CT:au:=⟨[.val an,.val tI,.val tI,.val tI],[.val .bool],fun x=>kO x.1 x.2.1 x.2.2.1 x.2.2.2.1⟩
noncomputable def XP:Cx:=⟨tpr,[(167,lU),(168,Sv)],[]⟩
theorem Ie:FB 94 CT:=fbk XP [] none (by intro x;kernel_rfl) (cz pJ (cz ZN (.nil _))) Tryz.func94
def QN:List (Nat×Ann):=[(2,⟨[(1,.val .str),(8,.val (.slice gp)),(9,.val tI),(10,.val tI)],[],[],aP _⟩),
 (200002,⟨[],[],[],fun _=>0⟩)]
def D6:au:=⟨[.val aC,.val .str],[.val tI],fun x=>gm x.1 x.2.1⟩
noncomputable def Vf:Cx:=⟨tpr,[],[]⟩
theorem Ld:FB 169 D6:=fbk Vf QN none (by intro x;kernel_rfl) (.nil _) Tryz.func169
def JO:List (Nat×Ann):=[(4,⟨[(2,.val .bool),(3,.ref 3 0),(12,.val (.slice jy)),(13,.val tI),(14,.val tI)],[(3,yu)],[],aP _⟩),
 (200004,⟨[],[],[],fun _=>0⟩)]
def wE:au:=⟨[.val aC,.val (.slice jy),.val .bool],[.val tI],fun x=>jP x.1 x.2.1 x.2.2.1⟩
noncomputable def Mt:Cx:=⟨tpr,[(94,CT),(167,lU),(169,D6)],[]⟩
theorem Db:FB 96 wE:=fbk Mt JO none (by intro x;kernel_rfl) (cz Ie (cz pJ (cz Ld (.nil _)))) Tryz.func96
def Gq:au:=⟨[.val aC,.val tI],[.val tI],fun x=>tK x.1 x.2.1⟩
noncomputable def PY:Cx:=⟨tpr,[(36,zw),(51,rQ),(94,CT),(96,wE),(169,D6)],[]⟩
theorem Qd:FB 95 Gq:=fbk PY [] none (by intro x;kernel_rfl) (cz DT (cz vH (cz Ie (cz Db (cz Ld (.nil _)))))) Tryz.func95
def II:List (Nat×Ann):=[(12,⟨[(1,.ref 1 0),(45,.val (.slice gp)),(46,.val tI),(47,.val tI)],[(1,yu)],[],aP _⟩),
 (26,⟨[(1,.ref 1 0),(88,.val tI),(89,.val tI)],[(1,yu)],[],aP _⟩),
 (200012,⟨[(1,.ref 1 0)],[(1,yu)],[],fun _=>0⟩),
 (200026,⟨[(1,.ref 1 0)],[(1,yu)],[],fun _=>0⟩)]
def BS:au:=⟨[.val aC],[.val tI],fun x=>sP x.1⟩
noncomputable def LK:Cx:=⟨tpr,[(36,zw),(43,ur),(51,rQ),(94,CT),(95,Gq),(96,wE)],[]⟩
theorem LM:FB 52 BS:=fbk LK II none (by intro x;kernel_rfl) (cz DT (cz yA (cz vH (cz Ie (cz Qd (cz Db (.nil _))))))) Tryz.func52
def Ol:List (Nat×Ann):=[(13,⟨[(3,.val (.slice aC)),(33,.val (.slice aC)),(34,.val tI),(35,.val tI)],[],[],aP _⟩),
 (200013,⟨[],[],[],fun _=>0⟩),
 (300018,⟨[(57,.val .bool)],[],[],fun _=>0⟩)]
def Bx:au:=⟨[.val aY,.val (.slice ay),.val an,.val (.slice aC)],[.val tI],fun x=>vV x.1 x.2.1 x.2.2.1 x.2.2.2.1⟩
noncomputable def Rj:Cx:=⟨tpr,[(14,rP),(52,BS),(77,zU),(78,zT)],[]⟩
theorem G5:FB 33 Bx:=fbk Rj Ol none (by intro x;kernel_rfl) (cz Ac (cz LM (cz FG (cz FF (.nil _))))) Tryz.func33
def UQ:au:=⟨[.val aY,.val (.slice ay)],[.val tI],fun x=>Sg x.1 x.2.1⟩
noncomputable def aa2:Cx:=⟨tpr,[(77,zU),(78,zT)],[]⟩
theorem abe:FB 152 UQ:=fbk aa2 [] none (by intro x;kernel_rfl) (cz FG (cz FF (.nil _))) Tryz.func152
def NK:au:=⟨[.val aY,.val (.slice ay),.val tI],[.val tI],fun x=>Ho x.1 x.2.1 x.2.2.1⟩
noncomputable def Ws:Cx:=⟨tpr,[(43,ur),(152,UQ)],[]⟩
theorem WK:FB 84 NK:=fbk Ws [] none (by intro x;kernel_rfl) (cz yA (cz abe (.nil _))) Tryz.func84
def SO:List (Nat×Ann):=[(1,⟨[(1,.ref 1 0),(2,.ref 2 0)],[(1,yx),(2,yx)],[],aP _⟩),
 (200001,⟨[(1,.ref 1 0),(2,.ref 2 0)],[(1,yx),(2,yx)],[],fun _=>0⟩)]
def wF:au:=⟨[.val an],[.val an],fun x=>gM x.1⟩
noncomputable def Wp:Cx:=⟨tpr,[],[]⟩
theorem AT:FB 46 wF:=fbk Wp SO none (by intro x;kernel_rfl) (.nil _) Tryz.func46
def U4:List (Nat×Ann):=[(3,⟨[(3,.val tI),(8,.val tI),(9,.val tI)],[],[],aP _⟩),
 (200003,⟨[(3,.val tI)],[],[],fun _=>0⟩)]
def CU:au:=⟨[.val an],[.val tI],fun x=>qw x.1⟩
noncomputable def XX:Cx:=⟨tpr,[],[]⟩
theorem Ig:FB 204 CU:=fbk XX U4 none (by intro x;kernel_rfl) (.nil _) Tryz.func204
def EO:au:=⟨[.val an,.val an],[.val an],fun x=>mC x.1 x.2.1⟩
noncomputable def ZH:Cx:=⟨tpr,[(46,wF),(204,CU)],[]⟩
theorem Kg:FB 206 EO:=fbk ZH [] none (by intro x;kernel_rfl) (cz AT (cz Ig (.nil _))) Tryz.func206
def Iy:au:=⟨[.val an,.val an],[.val an],fun x=>Gd x.1 x.2.1⟩
noncomputable def XY:Cx:=⟨tpr,[(206,EO)],[]⟩
theorem O8:FB 200 Iy:=fbk XY [] none (by intro x;kernel_rfl) (cz Kg (.nil _)) Tryz.func200
def EN:au:=⟨[.val bz],[.val an],fun x=>Al x.1⟩
noncomputable def ZG:Cx:=⟨tpr,[(200,Iy)],[]⟩
theorem Kf:FB 201 EN:=fbk ZG [] none (by intro x;kernel_rfl) (cz O8 (.nil _)) Tryz.func201
def Ci:au:=⟨[.val bz],[.val bz],fun x=>qx x.1⟩
noncomputable def Te:Cx:=⟨tpr,[(200,Iy),(201,EN)],[]⟩
theorem Jf:FB 153 Ci:=fbk Te [] none (by intro x;kernel_rfl) (cz O8 (cz Kf (.nil _))) Tryz.func153
def LA:List (Nat×Ann):=[(2,⟨[(1,.val tI),(10,.val (.slice bn)),(11,.val tI),(12,.val tI)],[],[],aP _⟩),
 (200002,⟨[],[],[],fun _=>0⟩)]
def yh:au:=⟨[.val (.ptr fW),.val tI],[.val tI],fun x=>rM x.1 x.2.1⟩
noncomputable def OC:Cx:=⟨tpr,[],[]⟩
theorem Ed:FB 202 yh:=fbk OC LA none (by intro x;kernel_rfl) (.nil _) Tryz.func202
def HD:au:=⟨[.val (.ptr fW),.val bz],[.val tI],fun x=>Bj x.1 x.2.1⟩
noncomputable def Rk:Cx:=⟨tpr,[(204,CU)],[]⟩
theorem RA:FB 205 HD:=fbk Rk [] none (by intro x;kernel_rfl) (cz Ig (.nil _)) Tryz.func205
def JP:List (Nat×Ann):=[(100017,⟨[(0,.val (.ptr fW)),(5,.ref 5 0),(7,.ref 7 0),(8,.ref 8 0),(64,.val tI),(65,.val .bool)],[(5,Fo),(7,aaV),(8,Q5)],[],fun _=>0⟩),
 (100022,⟨[(0,.val (.ptr fW)),(5,.ref 5 0),(7,.ref 7 0),(8,.ref 8 0),(64,.val tI),(72,.val .bool)],[(5,Fo),(7,aaV),(8,Q5)],[],fun _=>0⟩),
 (300007,⟨[(37,.val .bool)],[],[],fun _=>0⟩),
 (300009,⟨[(51,.val .bool)],[],[],fun _=>0⟩),
 (300025,⟨[(121,.val .bool)],[],[],fun _=>0⟩)]
def DG:au:=⟨[.val (.ptr fW),.val tI],[.val tI],fun x=>uX x.1 x.2.1⟩
noncomputable def Mv:Cx:=⟨tpr,[(196,Gv),(201,EN),(202,yh),(203,HF),(204,CU),(205,HD),(206,EO)],[]⟩
theorem MO:FB 154 DG:=fbk Mv JP none (by intro x;kernel_rfl) (cz MQ (cz Kf (cz Ed (cz MP (cz Ig (cz RA (cz Kg (.nil _)))))))) Tryz.func154
noncomputable def AM:Cx:=⟨tpr,[(46,wF)],[]⟩
noncomputable def yy:Code:=(Tryz.f208.body).getD .skip
theorem I7:∀ (e:TypeId) (vs:List Value) (l:(List aa)) (ql:(List aq)) (i:Nat),den AM [] yy (List CV×TypeId×(List aq)) (Ka Tryz.f208.ntmps 6 9 e ay bn vs l ql i) (aa8 bn)=kH l ql i (fun q=>some (mI 6 9 ay l vs,e,q)):=by intro e vs l ql i;kernel_rfl
def YZ:zF:= .elt 6 9 ay bn iq
theorem adG:jg tpr 208:=sG Tryz.func208 rfl (by decide)
theorem adK:GN Tryz.prog 208 YZ:=aeg (X:=AM) (cz AT (.nil _)) (by kernel_rfl) (fn:=Tryz.f208) (c:=yy) 6 9 ay bn iq [] (by kernel_rfl) (by kernel_rfl) (by kernel_rfl) (by decide) (fun e vs l ql i=>(I7 e vs l ql i).trans (Iu l ql i _))
def vf:au:=⟨[.val (.slice cI)],[.row 258 cI],fun x=>iR x.1⟩
noncomputable def Eu:Cx:=⟨tpr,[],[]⟩
theorem EA:FB 209 vf:=fbk Eu [] none (by intro x;kernel_rfl) (.nil _) Tryz.func209
def Lx:List (Nat×Ann):=[(4,⟨[(0,.ref 2000 0),(1,.val tI),(4,.ref 4 0),(5,.val tI)],[(4,Fo),(2000,aaU)],[.rowC 10250003 241 bn,.rowC 10250004 244 an],aP _⟩),
 (100003,⟨[(0,.ref 2000 0),(1,.val tI),(4,.ref 4 0),(5,.val tI)],[(4,Fo),(2000,[.val .str,.val .str,.val .str,.val tI,.val tI,.val (.slice eS),.val (.slice ay),.own 241 bn,.rowR 10250004])],[.rowC 10250004 244 an],fun _=>0⟩),
 (100010,⟨[(0,.ref 2000 0),(1,.val tI),(4,.ref 4 0),(7,.rpR 4000 19)],[(4,Fo),(2000,Wf)],[.rowC 4000 241 bn,.rowC 10250004 244 an],fun _=>0⟩),
 (100013,⟨[(0,.ref 2000 0),(1,.val tI),(4,.ref 4 0),(7,.rpR 4000 19),(82,.val tI),(83,.val .bool)],[(4,Fo),(2000,Wf)],[.rowC 4000 241 bn,.rowC 10250004 244 an],fun _=>0⟩),
 (100016,⟨[(1,.val tI),(7,.rpR 4000 19)],[(2000,Wf)],[.rowC 4000 241 bn,.rowC 10250004 244 an],fun _=>0⟩),
 (200004,⟨[(0,.ref 2000 0),(1,.val tI),(4,.ref 4 0),(5,.val tI)],[(4,Fo),(2000,aaU)],[.rowC 10250003 241 bn,.rowC 10250004 244 an],fun _=>0⟩),
 (300004,⟨[(41,.val .bool)],[],[],fun _=>0⟩)]
def Ej:au:=⟨[.box [.val aY,.val (.slice ay),.row 241 bn,.row 244 an],.val tI],[],fun x=>kP x.1 x.2.1⟩
noncomputable def OB:Cx:=⟨tpr,[(46,wF),(153,Ci),(201,EN),(202,yh),(206,EO),(207,kX),(209,vf)],[(208,YZ),(100065,.own)]⟩
theorem OM:FB 155 Ej:=fbk OB Lx none (by intro x;kernel_rfl) (.VP adK adG (.aeO (cz AT (cz Jf (cz Kf (cz Ed (cz Kg (.cons vp vo (cz EA (.nil _)))))))))) Tryz.func155
def XH:List (Nat×Ann):=[(3,⟨[(1,.val (.slice ay)),(2,.val tI),(7,.ref 17 0),(19,.val (.slice eS)),(20,.val tI),(21,.val tI)],[(17,Q4)],[],aP _⟩),
 (9,⟨[(2,.val tI),(7,.ref 17 0),(53,.val (.slice ay)),(54,.val tI),(55,.val tI)],[(17,Q4)],[],aP _⟩),
 (200003,⟨[(1,.val (.slice ay)),(2,.val tI),(7,.ref 17 0)],[(17,Q4)],[],fun _=>0⟩),
 (200009,⟨[(7,.ref 17 0)],[(17,Q4)],[],fun _=>0⟩)]
def UR:au:=⟨[.val aY,.val (.slice ay),.val tI],[.box [.val aY,.val (.slice ay),.row 241 bn,.row 244 an]],fun x=>Sk x.1 x.2.1 x.2.2.1⟩
noncomputable def aa4:Cx:=⟨tpr,[(46,wF),(153,Ci),(154,DG),(155,Ej)],[]⟩
theorem abf:FB 85 UR:=fbk aa4 XH none (by intro x;kernel_rfl) (cz AT (cz Jf (cz MO (cz OM (.nil _))))) Tryz.func85
def LB:List (Nat×Ann):=[(3,⟨[(3,.own 105 bz),(9,.val (.slice bn)),(10,.val tI),(11,.val tI)],[],[],aP _⟩),
 (200003,⟨[(3,.own 105 bz)],[],[],fun _=>0⟩)]
def Ek:au:=⟨[.val (.ptr fW)],[.row 105 bz],fun x=>xC x.1⟩
noncomputable def OD:Cx:=⟨tpr,[],[]⟩
theorem ON:FB 86 Ek:=fbk OD LB none (by intro x;kernel_rfl) (.nil _) Tryz.func86
def Lt:au:=⟨[.val aY,.val (.slice ay),.val tI],[.row 105 bz,.val tI],fun x=>Bi x.1 x.2.1 x.2.2.1⟩
noncomputable def Vj:Cx:=⟨tpr,[(84,NK),(85,UR),(86,Ek)],[]⟩
theorem Vr:FB 44 Lt:=fbk Vj [] none (by intro x;kernel_rfl) (cz WK (cz abf (cz ON (.nil _)))) Tryz.func44
def SN:List (Nat×Ann):=[(3,⟨[(3,.val tI),(8,.val tI),(9,.val tI)],[],[],aP _⟩),
 (200003,⟨[(3,.val tI)],[],[],fun _=>0⟩)]
def Gs:au:=⟨[.val an],[.val tI],fun x=>pZ x.1⟩
noncomputable def Wn:Cx:=⟨tpr,[],[]⟩
theorem ML:FB 79 Gs:=fbk Wn SN none (by intro x;kernel_rfl) (.nil _) Tryz.func79
def PI:List (Nat×Ann):=[(2,⟨[(1,.val tI),(4,.ref 4 0),(8,.val (.slice bz)),(9,.val tI),(10,.val tI)],[(4,Q5)],[],aP _⟩),
 (200002,⟨[(4,.ref 4 0)],[(4,Q5)],[],fun _=>0⟩)]
def Jz:au:=⟨[.val (.slice bz),.val tI],[.val bz,.val .bool],fun x=>CF x.1 x.2.1⟩
noncomputable def Tc:Cx:=⟨tpr,[],[]⟩
theorem Tp:FB 146 Jz:=fbk Tc PI none (by intro x;kernel_rfl) (.nil _) Tryz.func146
def PG:List (Nat×Ann):=[(3,⟨[(1,.val (.slice bf)),(5,.ref 5 0),(6,.ref 6 0),(13,.val (.slice bf)),(14,.val tI),(15,.val tI)],[(5,C4),(6,C4)],[],aP _⟩),
 (8,⟨[(5,.ref 5 0),(6,.ref 6 0),(23,.val (.slice bf)),(24,.val tI),(25,.val tI)],[(5,C4),(6,C4)],[],aP _⟩),
 (200003,⟨[(1,.val (.slice bf)),(5,.ref 5 0),(6,.ref 6 0)],[(5,C4),(6,C4)],[],fun _=>0⟩),
 (200008,⟨[(5,.ref 5 0),(6,.ref 6 0)],[(5,C4),(6,C4)],[],fun _=>0⟩)]
def Jy:au:=⟨[.val (.slice bf),.val (.slice bf)],[.val .bool],fun x=>yD x.1 x.2.1⟩
noncomputable def Tb:Cx:=⟨tpr,[(149,Gt),(197,zx),(198,HC)],[]⟩
theorem To:FB 147 Jy:=fbk Tb PG none (by intro x;kernel_rfl) (cz Ke (cz DU (cz MM (.nil _)))) Tryz.func147
def Sw:au:=⟨[.val bz],[.val tI],fun x=>Ob x.1⟩
noncomputable def ZD:Cx:=⟨tpr,[(79,Gs)],[]⟩
theorem ZO:FB 45 Sw:=fbk ZD [] none (by intro x;kernel_rfl) (cz ML (.nil _)) Tryz.func45
def Pp:au:=⟨[.val (.slice bz),.val an,.val fB,.val tI],[.val tI],fun x=>KK x.1 x.2.1 x.2.2.1 x.2.2.2.1⟩
noncomputable def XQ:Cx:=⟨tpr,[(45,Sw),(146,Jz),(147,Jy),(148,KW),(149,Gt)],[]⟩
theorem X8:FB 80 Pp:=fbk XQ [] none (by intro x;kernel_rfl) (cz ZO (cz Tp (cz To (cz Qe (cz Ke (.nil _)))))) Tryz.func80
def SM:List (Nat×Ann):=[(4,⟨[(1,.val (.slice ay)),(3,.val (.slice aC)),(4,.ref 4 0),(6,.ref 6 0),(10,.own 37 bQ),(11,.mapR 23),(24,.val (.slice aC)),(25,.val tI),(26,.val tI)],[(4,IQ),(6,yx)],[.mapC 23 tI tI],aP _⟩),
 (10,⟨[(1,.val (.slice ay)),(3,.val (.slice aC)),(4,.ref 4 0),(6,.ref 6 0),(10,.own 37 bQ),(11,.mapR 23),(12,.val tI),(13,.ref 13 0),(14,.val tI),(24,.val (.slice aC)),(25,.val tI),(26,.val tI),(38,.val (.slice aC)),(39,.val tI),(40,.val tI)],[(4,IQ),(6,yx),(13,yu)],[.mapC 23 tI tI],aP _⟩),
 (19,⟨[(1,.val (.slice ay)),(3,.val (.slice aC)),(4,.ref 4 0),(6,.ref 6 0),(10,.own 37 bQ),(11,.mapR 23),(12,.val tI),(17,.rowR 148752),(24,.val (.slice aC)),(25,.val tI),(26,.val tI),(71,.val (.slice fB)),(72,.val tI),(73,.val tI)],[(4,IQ),(6,yx)],[.rowC 148752 105 bz,.mapC 23 tI tI],aP _⟩),
 (100008,⟨[(1,.val (.slice ay)),(3,.val (.slice aC)),(4,.ref 4 0),(6,.ref 6 0),(10,.own 37 bQ),(11,.mapR 23),(12,.val tI),(13,.ref 13 0),(14,.val tI),(24,.val (.slice aC)),(25,.val tI),(26,.val tI)],[(4,IQ),(6,yx),(13,yu)],[.mapC 23 tI tI],fun _=>0⟩),
 (200004,⟨[(10,.own 37 bQ),(11,.mapR 23)],[],[.mapC 23 tI tI],fun _=>0⟩),
 (200010,⟨[(1,.val (.slice ay)),(3,.val (.slice aC)),(4,.ref 4 0),(6,.ref 6 0),(10,.own 37 bQ),(11,.mapR 23),(12,.val tI),(13,.ref 13 0),(14,.val tI),(24,.val (.slice aC)),(25,.val tI),(26,.val tI)],[(4,IQ),(6,yx),(13,yu)],[.mapC 23 tI tI],fun _=>0⟩),
 (200019,⟨[(1,.val (.slice ay)),(3,.val (.slice aC)),(4,.ref 4 0),(6,.ref 6 0),(10,.own 37 bQ),(11,.mapR 23),(24,.val (.slice aC)),(25,.val tI),(26,.val tI)],[(4,IQ),(6,yx)],[.mapC 23 tI tI],fun _=>0⟩),
 (300012,⟨[(52,.val .bool)],[],[],fun _=>0⟩)]
def Gr:au:=⟨[.val aY,.val (.slice ay),.val an,.val (.slice aC)],[.row 37 bQ,.map tI tI],fun x=>Dv x.1 x.2.1 x.2.2.1 x.2.2.2.1⟩
noncomputable def Wm:Cx:=⟨tpr,[(44,Lt),(79,Gs),(80,Pp)],[]⟩
theorem MK:FB 34 Gr:=fbk Wm SM none (by intro x;kernel_rfl) (cz Vr (cz ML (cz X8 (.nil _)))) Tryz.func34
def NI:au:=⟨[.val aY,.val (.slice ay),.val an,.val (.slice aC)],[.row 37 bQ,.val tI],fun x=>Hi x.1 x.2.1 x.2.2.1 x.2.2.2.1⟩
noncomputable def Wl:Cx:=⟨tpr,[(33,Bx),(34,Gr)],[]⟩
theorem WI:FB 12 NI:=fbk Wl [] none (by intro x;kernel_rfl) (cz G5 (cz MK (.nil _))) Tryz.func12
def Oj:List (Nat×Ann):=[(6,⟨[(10,.ref 21 0),(12,.own 9 .str),(27,.val (.slice aC)),(28,.val tI),(29,.val tI)],[(21,[.val .str,.val .str,.val .str,.val tI,.val tI,.val (.slice eS),.val (.slice ay),.val tI,.val tI,.val (.slice aC),.map tI (.slice bz),.map tI bh,.own 37 bQ])],[],aP _⟩),
 (200006,⟨[(12,.own 9 .str)],[],[],fun _=>0⟩)]
def HA:au:=⟨[.val aY,.val (.slice ay),.val an,.val (.slice aC)],[.row 9 .str,.val tI],fun x=>AJ x.1 x.2.1 x.2.2.1 x.2.2.2.1⟩
noncomputable def Re:Cx:=⟨tpr,[(30,uI),(30,yg),(31,oK)],[]⟩
theorem Ry:FB 15 HA:=fbk Re Oj none (by intro x;kernel_rfl) (cz BM (cz Ec (cz xH (.nil _)))) Tryz.func15
def PF:List (Nat×Ann):=[(7,⟨[(11,.rowR 77072),(13,.own 9 .str),(35,.val (.slice aC)),(36,.val tI),(37,.val tI)],[],[.rowC 77072 37 bQ],aP _⟩),
 (11,⟨[(11,.rowR 77072),(13,.own 9 .str),(14,.val tI),(15,.ref 15 0),(16,.val .bool),(35,.val (.slice aC)),(36,.val tI),(37,.val tI),(42,.rowR 77072),(43,.val tI),(44,.val tI)],[(15,yu)],[.rowC 77072 37 bQ],aP _⟩),
 (200007,⟨[(13,.own 9 .str)],[],[],fun _=>0⟩),
 (200011,⟨[(11,.rowR 77072),(13,.own 9 .str),(15,.ref 15 0),(16,.val .bool),(35,.val (.slice aC)),(36,.val tI),(37,.val tI)],[(15,yu)],[.rowC 77072 37 bQ],fun _=>0⟩),
 (300013,⟨[(16,.val .bool)],[],[],fun _=>0⟩)]
def Jx:au:=⟨[.val aY,.val (.slice ay),.val an,.val (.slice aC)],[.row 9 .str,.val tI],fun x=>CE x.1 x.2.1 x.2.2.1 x.2.2.2.1⟩
noncomputable def Ta:Cx:=⟨tpr,[(33,Bx),(34,Gr)],[]⟩
theorem Tn:FB 16 Jx:=fbk Ta PF none (by intro x;kernel_rfl) (cz G5 (cz MK (.nil _))) Tryz.func16
def Fi:List (Nat×Ann):=[(4,⟨[(0,.val (.slice .str)),(1,.val (.slice .str)),(12,.val tI),(13,.val tI)],[],[],aP _⟩),
 (200004,⟨[],[],[],fun _=>0⟩)]
def yP:au:=⟨[.val (.slice .str),.val (.slice .str)],[.val .bool],fun x=>oA x.1 x.2.1⟩
noncomputable def H6:Cx:=⟨tpr,[],[]⟩
theorem Ih:FB 17 yP:=fbk H6 Fi none (by intro x;kernel_rfl) (.nil _) Tryz.func17
def BH:List (Nat×Ann):=[(300007,⟨[(8,.val .bool)],[],[],fun _=>0⟩)]
def sk:au:=⟨[.val aY,.val (.slice ay),.val an,.val (.slice aC)],[.val .bool],fun x=>jI x.1 x.2.1 x.2.2.1 x.2.2.2.1⟩
noncomputable def C5:Cx:=⟨tpr,[(8,Ln),(9,NH),(11,rS),(12,NI),(13,lE),(14,rP),(15,HA),(16,Jx),(17,yP)],[]⟩
theorem B3:Zr C5 BH none Tryz.f4 sk:=by intro x;kernel_rfl
theorem Dk:oZ tpr 4 sk:=I6 B3 (cz Vm (cz WH (cz B5 (cz WI (cz qi (cz Ac (cz Ry (cz Tn (cz Ih (.nil _)))))))))) abD Tryz.func4
end Go.Proofs.SeatA
end
