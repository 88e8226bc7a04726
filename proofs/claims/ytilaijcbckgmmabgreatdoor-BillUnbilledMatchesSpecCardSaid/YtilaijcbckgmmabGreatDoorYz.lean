/-
  Each function is as its plain model says, a further part. No condition.
-/
import Derived.Test.YtilaijcbckgmmabGreatDoorYy
import Derived.Test.YtilaijcbckgmmabGreatDoorYv
set_option maxRecDepth 100000
noncomputable section
namespace Go.Proofs.SeatA
open Go.Dn Go.Md Go.Proofs
def Dj:List CK:=[.val .bool,.val (.slice tI)]
def Rr:List CK:=[.val .str,.val .str,.val .str,.val tI,.val tI,.val (.slice fh),.val (.slice az),.own 185 bq,.own 188 an]
def abl:List CK:=[.val .str,.val .str,.val .str,.val tI,.val tI,.val (.slice fh),.val (.slice az),.rowR 10250003,.rowR 10250004]
def WB:List CK:=[.val .str,.val .str,.val .str,.val tI,.val tI,.val (.slice fh),.val (.slice az),.rowR 4000,.rowR 10250004]
def Dk:List CK:=[.val .str,.val .str,.val .str,.val tI,.val tI,.val (.slice fh)]
def Rs:List CK:=[.val .str,.val .str,.val tI,.val tI,.val tI,.val .bool,.own 83 cE,.own 85 c9,.own 88 dL]
def abm:List CK:=[.val .str,.val .str,.val tI,.val tI,.val tI,.val .bool,.rowR 52,.own 85 c9,.own 88 dL]
def abn:List CK:=[.val .str,.val .str,.val tI,.val tI,.val tI,.val .bool,.rowR 60,.own 85 c9,.own 88 dL]
def pT:List CK:=[.val .str,.val .str,.val tI,.val tI,.val tI,.val .bool,.val (.slice cE),.val (.slice c9),.val (.slice dL)]
def abo:List CK:=[.val tI,.val .str,.val .str,.val tI,.val tI,.val tI,.val tI,.val tI,.val tI,.val tI,.val tI,.val tI,.val tI,.val tI,.val tI,.val tI,.val tI,.val tI,.val (.slice cO)]
def Og:List CK:=[.val tI,.val .str,.val .str,.val tI,.val tI,.val tI,.val tI,.val tI,.val tI,.val tI,.val tI,.val tI,.val tI,.val tI,.val tI,.val tI]
def Ce:List CK:=[.val tI,.val tI,.val tI,.val tI,.val tI,.val .str,.val tI,.val tI,.val .str,.val tI,.val tI,.val tI,.val tI]
def o8:List CK:=[.val tI,.val tI]
def Mh:List (Nat×Ann):=[(4,⟨[(0,.val (.slice az)),(9,.val (.slice az)),(10,.val tI),(11,.val tI)],[],[],aN _⟩),
 (200004,⟨[],[],[],fun _=>0⟩),
 (300008,⟨[(21,.val .bool)],[],[],fun _=>0⟩),
 (300019,⟨[(70,.val .bool)],[],[],fun _=>0⟩)]
def Ae:av:=⟨[.val (.slice az)],[.val tI],fun x=>uj x.1⟩
noncomputable def Qm:Cx:=⟨tpr,[(20,qR),(89,si),(91,JU),(92,EE),(93,H6),(94,N7)],[]⟩
theorem F6:FB 49 Ae:=fbk Qm Mh none (by intro x;kernel_rfl) (cz uz (cz vV (cz TQ (cz Pc (cz RZ (cz W8 (.nil _))))))) Tryz.func49
def zJ:av:=⟨[.val tI,.val tI,.val tI],[.val .bool],fun x=>jN x.1 x.2.1 x.2.2.1⟩
noncomputable def VG:Cx:=⟨tpr,[],[]⟩
theorem Eb:FB 67 zJ:=fbk VG [] none (by intro x;kernel_rfl) (.nil _) Tryz.func67
def AI:av:=⟨[.val an],[.val tI],fun x=>qj x.1⟩
noncomputable def Jm:Cx:=⟨tpr,[(67,zJ)],[]⟩
theorem Jx:FB 50 AI:=fbk Jm [] none (by intro x;kernel_rfl) (cz Eb (.nil _)) Tryz.func50
def SS:av:=⟨[.val an,.val an],[.val tI],fun x=>JJ x.1 x.2.1⟩
noncomputable def Z4:Cx:=⟨tpr,[(98,Li),(145,HW)],[]⟩
theorem aaf:FB 125 SS:=fbk Z4 [] none (by intro x;kernel_rfl) (cz Qy (cz M9 (.nil _))) Tryz.func125
def Da:av:=⟨[.val an,.val tI,.val tI,.val tI],[.val .bool],fun x=>kU x.1 x.2.1 x.2.2.1 x.2.2.2.1⟩
noncomputable def Yg:Cx:=⟨tpr,[(124,lR),(125,SS)],[]⟩
theorem Iz:FB 68 Da:=fbk Yg [] none (by intro x;kernel_rfl) (cz pV (cz aaf (.nil _))) Tryz.func68
def Re:List (Nat×Ann):=[(2,⟨[(1,.val .str),(8,.val (.slice cE)),(9,.val tI),(10,.val tI)],[],[],aN _⟩),
 (200002,⟨[],[],[],fun _=>0⟩)]
def Eo:av:=⟨[.val aA,.val .str],[.val tI],fun x=>fZ x.1 x.2.1⟩
noncomputable def VF:Cx:=⟨tpr,[],[]⟩
theorem LA:FB 126 Eo:=fbk VF Re none (by intro x;kernel_rfl) (.nil _) Tryz.func126
def Kb:List (Nat×Ann):=[(4,⟨[(2,.val .bool),(3,.ref 3 0),(12,.val (.slice dL)),(13,.val tI),(14,.val tI)],[(3,pT)],[],aN _⟩),
 (200004,⟨[],[],[],fun _=>0⟩)]
def wS:av:=⟨[.val aA,.val (.slice dL),.val .bool],[.val tI],fun x=>jM x.1 x.2.1 x.2.2.1⟩
noncomputable def MO:Cx:=⟨tpr,[(68,Da),(124,lR),(126,Eo)],[]⟩
theorem Ds:FB 70 wS:=fbk MO Kb none (by intro x;kernel_rfl) (cz Iz (cz pV (cz LA (.nil _)))) Tryz.func70
def GQ:av:=⟨[.val aA,.val tI],[.val tI],fun x=>tX x.1 x.2.1⟩
noncomputable def Ql:Cx:=⟨tpr,[(30,ou),(67,zJ),(68,Da),(70,wS),(126,Eo)],[]⟩
theorem Qx:FB 69 GQ:=fbk Ql [] none (by intro x;kernel_rfl) (cz rJ (cz Eb (cz Iz (cz Ds (cz LA (.nil _)))))) Tryz.func69
def I7:List (Nat×Ann):=[(12,⟨[(1,.ref 1 0),(45,.val (.slice cE)),(46,.val tI),(47,.val tI)],[(1,pT)],[],aN _⟩),
 (26,⟨[(1,.ref 1 0),(88,.val tI),(89,.val tI)],[(1,pT)],[],aN _⟩),
 (200012,⟨[(1,.ref 1 0)],[(1,pT)],[],fun _=>0⟩),
 (200026,⟨[(1,.ref 1 0)],[(1,pT)],[],fun _=>0⟩)]
def uV:av:=⟨[.val aA],[.val tI],fun x=>kS x.1⟩
noncomputable def L4:Cx:=⟨tpr,[(20,qR),(30,ou),(67,zJ),(68,Da),(69,GQ),(70,wS)],[]⟩
theorem B3:FB 31 uV:=fbk L4 I7 none (by intro x;kernel_rfl) (cz uz (cz rJ (cz Eb (cz Iz (cz Qx (cz Ds (.nil _))))))) Tryz.func31
def OG:List (Nat×Ann):=[(13,⟨[(3,.val (.slice aA)),(33,.val (.slice aA)),(34,.val tI),(35,.val tI)],[],[],aN _⟩),
 (200013,⟨[],[],[],fun _=>0⟩),
 (300018,⟨[(57,.val .bool)],[],[],fun _=>0⟩)]
def HV:av:=⟨[.val aY,.val (.slice az),.val an,.val (.slice aA)],[.val tI],fun x=>Bn x.1 x.2.1 x.2.2.1 x.2.2.2.1⟩
noncomputable def RC:Cx:=⟨tpr,[(31,uV),(48,Af),(49,Ae),(50,AI)],[]⟩
theorem RW:FB 19 HV:=fbk RC OG none (by intro x;kernel_rfl) (cz B3 (cz F7 (cz F6 (cz Jx (.nil _))))) Tryz.func19
def Vk:av:=⟨[.val aY,.val (.slice az)],[.val tI],fun x=>SF x.1 x.2.1⟩
noncomputable def abq:Cx:=⟨tpr,[(48,Af),(49,Ae)],[]⟩
theorem abD:FB 100 Vk:=fbk abq [] none (by intro x;kernel_rfl) (cz F7 (cz F6 (.nil _))) Tryz.func100
def N6:av:=⟨[.val aY,.val (.slice az),.val tI],[.val tI],fun x=>HJ x.1 x.2.1 x.2.2.1⟩
noncomputable def WO:Cx:=⟨tpr,[(20,qR),(100,Vk)],[]⟩
theorem W7:FB 54 N6:=fbk WO [] none (by intro x;kernel_rfl) (cz uz (cz abD (.nil _))) Tryz.func54
def Ti:List (Nat×Ann):=[(1,⟨[(1,.ref 1 0),(2,.ref 2 0)],[(1,o8),(2,o8)],[],aN _⟩),
 (200001,⟨[(1,.ref 1 0),(2,.ref 2 0)],[(1,o8),(2,o8)],[],fun _=>0⟩)]
def ov:av:=⟨[.val an],[.val an],fun x=>eY x.1⟩
noncomputable def WL:Cx:=⟨tpr,[],[]⟩
theorem rK:FB 24 ov:=fbk WL Ti none (by intro x;kernel_rfl) (.nil _) Tryz.func24
def Vv:List (Nat×Ann):=[(3,⟨[(3,.val tI),(8,.val tI),(9,.val tI)],[],[],aN _⟩),
 (200003,⟨[(3,.val tI)],[],[],fun _=>0⟩)]
def Db:av:=⟨[.val an],[.val tI],fun x=>qL x.1⟩
noncomputable def Yo:Cx:=⟨tpr,[],[]⟩
theorem IA:FB 151 Db:=fbk Yo Vv none (by intro x;kernel_rfl) (.nil _) Tryz.func151
def Fa:av:=⟨[.val an,.val an],[.val an],fun x=>mz x.1 x.2.1⟩
noncomputable def Z9:Cx:=⟨tpr,[(24,ov),(151,Db)],[]⟩
theorem KB:FB 153 Fa:=fbk Z9 [] none (by intro x;kernel_rfl) (cz rK (cz IA (.nil _))) Tryz.func153
def IV:av:=⟨[.val an,.val an],[.val an],fun x=>GF x.1 x.2.1⟩
noncomputable def Yp:Cx:=⟨tpr,[(153,Fa)],[]⟩
theorem Pu:FB 147 IV:=fbk Yp [] none (by intro x;kernel_rfl) (cz KB (.nil _)) Tryz.func147
def E9:av:=⟨[.val bg],[.val an],fun x=>AA x.1⟩
noncomputable def Z8:Cx:=⟨tpr,[(147,IV)],[]⟩
theorem KA:FB 148 E9:=fbk Z8 [] none (by intro x;kernel_rfl) (cz Pu (.nil _)) Tryz.func148
def Cv:av:=⟨[.val bg],[.val bg],fun x=>qM x.1⟩
noncomputable def TD:Cx:=⟨tpr,[(147,IV),(148,E9)],[]⟩
theorem Jy:FB 101 Cv:=fbk TD [] none (by intro x;kernel_rfl) (cz Pu (cz KA (.nil _))) Tryz.func101
def LR:List (Nat×Ann):=[(2,⟨[(1,.val tI),(10,.val (.slice bq)),(11,.val tI),(12,.val tI)],[],[],aN _⟩),
 (200002,⟨[],[],[],fun _=>0⟩)]
def yE:av:=⟨[.val (.ptr fR),.val tI],[.val tI],fun x=>rZ x.1 x.2.1⟩
noncomputable def OV:Cx:=⟨tpr,[],[]⟩
theorem Ev:FB 149 yE:=fbk OV LR none (by intro x;kernel_rfl) (.nil _) Tryz.func149
def HX:av:=⟨[.val (.ptr fR),.val bg],[.val tI],fun x=>BA x.1 x.2.1⟩
noncomputable def RD:Cx:=⟨tpr,[(151,Db)],[]⟩
theorem RX:FB 152 HX:=fbk RD [] none (by intro x;kernel_rfl) (cz IA (.nil _)) Tryz.func152
def Kc:List (Nat×Ann):=[(100017,⟨[(0,.val (.ptr fR)),(5,.ref 5 0),(7,.ref 7 0),(8,.ref 8 0),(64,.val tI),(65,.val .bool)],[(5,Ce),(7,abo),(8,Og)],[],fun _=>0⟩),
 (100022,⟨[(0,.val (.ptr fR)),(5,.ref 5 0),(7,.ref 7 0),(8,.ref 8 0),(64,.val tI),(72,.val .bool)],[(5,Ce),(7,abo),(8,Og)],[],fun _=>0⟩),
 (300007,⟨[(37,.val .bool)],[],[],fun _=>0⟩),
 (300009,⟨[(51,.val .bool)],[],[],fun _=>0⟩),
 (300025,⟨[(121,.val .bool)],[],[],fun _=>0⟩)]
def DS:av:=⟨[.val (.ptr fR),.val tI],[.val tI],fun x=>vk x.1 x.2.1⟩
noncomputable def MQ:Cx:=⟨tpr,[(143,GV),(148,E9),(149,yE),(150,HZ),(151,Db),(152,HX),(153,Fa)],[]⟩
theorem Nb:FB 102 DS:=fbk MQ Kc none (by intro x;kernel_rfl) (cz Nd (cz KA (cz Ev (cz Nc (cz IA (cz RX (cz KB (.nil _)))))))) Tryz.func102
noncomputable def A3:Cx:=⟨tpr,[(24,ov)],[]⟩
noncomputable def yN:Code:=(Tryz.f155.body).getD .skip
theorem Jp:∀ (e:TypeId) (vs:List Value) (l:(List aa)) (ql:(List au)) (i:Nat),den A3 [] yN (List CV×TypeId×(List au)) (Kv Tryz.f155.ntmps 6 9 e az bq vs l ql i) (abx bq)=kL l ql i (fun q=>some (mG 6 9 az l vs,e,q)):=by intro e vs l ql i;kernel_rfl
def Zr:zS:= .elt 6 9 az bq gX
theorem aea:jb tpr 155:=sR Tryz.func155 rfl (by decide)
theorem aee:Hp Tryz.prog 155 Zr:=aeG (X:=A3) (cz rK (.nil _)) (by kernel_rfl) (fn:=Tryz.f155) (c:=yN) 6 9 az bq gX [] (by kernel_rfl) (by kernel_rfl) (by kernel_rfl) (by decide) (fun e vs l ql i=>(Jp e vs l ql i).trans (IP l ql i _))
def vt:av:=⟨[.val (.slice cO)],[.row 235 cO],fun x=>iK x.1⟩
noncomputable def EK:Cx:=⟨tpr,[],[]⟩
theorem ER:FB 156 vt:=fbk EK [] none (by intro x;kernel_rfl) (.nil _) Tryz.func156
def LQ:List (Nat×Ann):=[(4,⟨[(0,.ref 2000 0),(1,.val tI),(4,.ref 4 0),(5,.val tI)],[(4,Ce),(2000,abl)],[.rowC 10250003 185 bq,.rowC 10250004 188 an],aN _⟩),
 (100003,⟨[(0,.ref 2000 0),(1,.val tI),(4,.ref 4 0),(5,.val tI)],[(4,Ce),(2000,[.val .str,.val .str,.val .str,.val tI,.val tI,.val (.slice fh),.val (.slice az),.own 185 bq,.rowR 10250004])],[.rowC 10250004 188 an],fun _=>0⟩),
 (100010,⟨[(0,.ref 2000 0),(1,.val tI),(4,.ref 4 0),(7,.rpR 4000 19)],[(4,Ce),(2000,WB)],[.rowC 4000 185 bq,.rowC 10250004 188 an],fun _=>0⟩),
 (100013,⟨[(0,.ref 2000 0),(1,.val tI),(4,.ref 4 0),(7,.rpR 4000 19),(82,.val tI),(83,.val .bool)],[(4,Ce),(2000,WB)],[.rowC 4000 185 bq,.rowC 10250004 188 an],fun _=>0⟩),
 (100016,⟨[(1,.val tI),(7,.rpR 4000 19)],[(2000,WB)],[.rowC 4000 185 bq,.rowC 10250004 188 an],fun _=>0⟩),
 (200004,⟨[(0,.ref 2000 0),(1,.val tI),(4,.ref 4 0),(5,.val tI)],[(4,Ce),(2000,abl)],[.rowC 10250003 185 bq,.rowC 10250004 188 an],fun _=>0⟩),
 (300004,⟨[(41,.val .bool)],[],[],fun _=>0⟩)]
def EC:av:=⟨[.box [.val aY,.val (.slice az),.row 185 bq,.row 188 an],.val tI],[],fun x=>kV x.1 x.2.1⟩
noncomputable def OU:Cx:=⟨tpr,[(24,ov),(101,Cv),(148,E9),(149,yE),(153,Fa),(154,lg),(156,vt)],[(155,Zr),(100065,.own)]⟩
theorem O9:FB 103 EC:=fbk OU LQ none (by intro x;kernel_rfl) (.Wf aee aea (.afd (cz rK (cz Jy (cz KA (cz Ev (cz KB (.cons vH vG (cz ER (.nil _)))))))))) Tryz.func103
def X6:List (Nat×Ann):=[(3,⟨[(1,.val (.slice az)),(2,.val tI),(7,.ref 17 0),(19,.val (.slice fh)),(20,.val tI),(21,.val tI)],[(17,Rr)],[],aN _⟩),
 (9,⟨[(2,.val tI),(7,.ref 17 0),(53,.val (.slice az)),(54,.val tI),(55,.val tI)],[(17,Rr)],[],aN _⟩),
 (200003,⟨[(1,.val (.slice az)),(2,.val tI),(7,.ref 17 0)],[(17,Rr)],[],fun _=>0⟩),
 (200009,⟨[(7,.ref 17 0)],[(17,Rr)],[],fun _=>0⟩)]
def Vl:av:=⟨[.val aY,.val (.slice az),.val tI],[.box [.val aY,.val (.slice az),.row 185 bq,.row 188 an]],fun x=>SJ x.1 x.2.1 x.2.2.1⟩
noncomputable def abt:Cx:=⟨tpr,[(24,ov),(101,Cv),(102,DS),(103,EC)],[]⟩
theorem abE:FB 55 Vl:=fbk abt X6 none (by intro x;kernel_rfl) (cz rK (cz Jy (cz Nb (cz O9 (.nil _))))) Tryz.func55
def LS:List (Nat×Ann):=[(3,⟨[(3,.own 56 bg),(9,.val (.slice bq)),(10,.val tI),(11,.val tI)],[],[],aN _⟩),
 (200003,⟨[(3,.own 56 bg)],[],[],fun _=>0⟩)]
def ED:av:=⟨[.val (.ptr fR)],[.row 56 bg],fun x=>xR x.1⟩
noncomputable def OW:Cx:=⟨tpr,[],[]⟩
theorem Pb:FB 56 ED:=fbk OW LS none (by intro x;kernel_rfl) (.nil _) Tryz.func56
def zL:av:=⟨[.val aY,.val (.slice az),.val tI],[.row 56 bg,.val tI],fun x=>tq x.1 x.2.1 x.2.2.1⟩
noncomputable def VJ:Cx:=⟨tpr,[(54,N6),(55,Vl),(56,ED)],[]⟩
theorem Ed:FB 22 zL:=fbk VJ [] none (by intro x;kernel_rfl) (cz W7 (cz abE (cz Pb (.nil _)))) Tryz.func22
def Th:List (Nat×Ann):=[(3,⟨[(3,.val tI),(8,.val tI),(9,.val tI)],[],[],aN _⟩),
 (200003,⟨[(3,.val tI)],[],[],fun _=>0⟩)]
def GR:av:=⟨[.val an],[.val tI],fun x=>qu x.1⟩
noncomputable def WJ:Cx:=⟨tpr,[],[]⟩
theorem M8:FB 52 GR:=fbk WJ Th none (by intro x;kernel_rfl) (.nil _) Tryz.func52
def P6:List (Nat×Ann):=[(2,⟨[(1,.val tI),(4,.ref 4 0),(8,.val (.slice bg)),(9,.val tI),(10,.val tI)],[(4,Og)],[],aN _⟩),
 (200002,⟨[(4,.ref 4 0)],[(4,Og)],[],fun _=>0⟩)]
def JT:av:=⟨[.val (.slice bg),.val tI],[.val bg,.val .bool],fun x=>CT x.1 x.2.1⟩
noncomputable def TB:Cx:=⟨tpr,[],[]⟩
theorem TP:FB 96 JT:=fbk TB P6 none (by intro x;kernel_rfl) (.nil _) Tryz.func96
def P5:List (Nat×Ann):=[(3,⟨[(1,.val (.slice bn)),(5,.ref 5 0),(6,.ref 6 0),(13,.val (.slice bn)),(14,.val tI),(15,.val tI)],[(5,Dj),(6,Dj)],[],aN _⟩),
 (8,⟨[(5,.ref 5 0),(6,.ref 6 0),(23,.val (.slice bn)),(24,.val tI),(25,.val tI)],[(5,Dj),(6,Dj)],[],aN _⟩),
 (200003,⟨[(1,.val (.slice bn)),(5,.ref 5 0),(6,.ref 6 0)],[(5,Dj),(6,Dj)],[],fun _=>0⟩),
 (200008,⟨[(5,.ref 5 0),(6,.ref 6 0)],[(5,Dj),(6,Dj)],[],fun _=>0⟩)]
def JS:av:=⟨[.val (.slice bn),.val (.slice bn)],[.val .bool],fun x=>yT x.1 x.2.1⟩
noncomputable def TA:Cx:=⟨tpr,[(99,GS),(144,zK),(145,HW)],[]⟩
theorem TO:FB 97 JS:=fbk TA P5 none (by intro x;kernel_rfl) (cz Kz (cz Ec (cz M9 (.nil _)))) Tryz.func97
def E8:av:=⟨[.val bg],[.val tI],fun x=>Fs x.1⟩
noncomputable def Z5:Cx:=⟨tpr,[(52,GR)],[]⟩
theorem Ky:FB 23 E8:=fbk Z5 [] none (by intro x;kernel_rfl) (cz M8 (.nil _)) Tryz.func23
def PN:av:=⟨[.val (.slice bg),.val an,.val c9,.val tI],[.val tI],fun x=>K6 x.1 x.2.1 x.2.2.1 x.2.2.2.1⟩
noncomputable def Yh:Cx:=⟨tpr,[(23,E8),(96,JT),(97,JS),(98,Li),(99,GS)],[]⟩
theorem Yy:FB 53 PN:=fbk Yh [] none (by intro x;kernel_rfl) (cz Ky (cz TP (cz TO (cz Qy (cz Kz (.nil _)))))) Tryz.func53
def Tg:List (Nat×Ann):=[(4,⟨[(1,.val (.slice az)),(3,.val (.slice aA)),(4,.ref 4 0),(6,.ref 6 0),(10,.own 107 de),(11,.mapR 23),(24,.val (.slice aA)),(25,.val tI),(26,.val tI)],[(4,Dk),(6,o8)],[.mapC 23 tI tI],aN _⟩),
 (10,⟨[(1,.val (.slice az)),(3,.val (.slice aA)),(4,.ref 4 0),(6,.ref 6 0),(10,.own 107 de),(11,.mapR 23),(12,.val tI),(13,.ref 13 0),(14,.val tI),(24,.val (.slice aA)),(25,.val tI),(26,.val tI),(38,.val (.slice aA)),(39,.val tI),(40,.val tI)],[(4,Dk),(6,o8),(13,pT)],[.mapC 23 tI tI],aN _⟩),
 (19,⟨[(1,.val (.slice az)),(3,.val (.slice aA)),(4,.ref 4 0),(6,.ref 6 0),(10,.own 107 de),(11,.mapR 23),(12,.val tI),(17,.rowR 148752),(24,.val (.slice aA)),(25,.val tI),(26,.val tI),(71,.val (.slice c9)),(72,.val tI),(73,.val tI)],[(4,Dk),(6,o8)],[.rowC 148752 56 bg,.mapC 23 tI tI],aN _⟩),
 (100008,⟨[(1,.val (.slice az)),(3,.val (.slice aA)),(4,.ref 4 0),(6,.ref 6 0),(10,.own 107 de),(11,.mapR 23),(12,.val tI),(13,.ref 13 0),(14,.val tI),(24,.val (.slice aA)),(25,.val tI),(26,.val tI)],[(4,Dk),(6,o8),(13,pT)],[.mapC 23 tI tI],fun _=>0⟩),
 (200004,⟨[(10,.own 107 de),(11,.mapR 23)],[],[.mapC 23 tI tI],fun _=>0⟩),
 (200010,⟨[(1,.val (.slice az)),(3,.val (.slice aA)),(4,.ref 4 0),(6,.ref 6 0),(10,.own 107 de),(11,.mapR 23),(12,.val tI),(13,.ref 13 0),(14,.val tI),(24,.val (.slice aA)),(25,.val tI),(26,.val tI)],[(4,Dk),(6,o8),(13,pT)],[.mapC 23 tI tI],fun _=>0⟩),
 (200019,⟨[(1,.val (.slice az)),(3,.val (.slice aA)),(4,.ref 4 0),(6,.ref 6 0),(10,.own 107 de),(11,.mapR 23),(24,.val (.slice aA)),(25,.val tI),(26,.val tI)],[(4,Dk),(6,o8)],[.mapC 23 tI tI],fun _=>0⟩),
 (300012,⟨[(52,.val .bool)],[],[],fun _=>0⟩)]
def N4:av:=⟨[.val aY,.val (.slice az),.val an,.val (.slice aA)],[.row 107 de,.map tI tI],fun x=>HH x.1 x.2.1 x.2.2.1 x.2.2.2.1⟩
noncomputable def WI:Cx:=⟨tpr,[(22,zL),(52,GR),(53,PN)],[]⟩
theorem W5:FB 21 N4:=fbk WI Tg none (by intro x;kernel_rfl) (cz Ed (cz M8 (cz Yy (.nil _)))) Tryz.func21
def OF:List (Nat×Ann):=[(7,⟨[(1,.val (.slice az)),(3,.val (.slice aA)),(4,.val tI),(5,.ref 5 0),(7,.ref 7 0),(13,.val tI)],[(5,Dk),(7,o8)],[],aN _⟩),
 (13,⟨[(15,.mapR 55),(18,.own 42 lE),(65,.rowR 138512),(66,.val tI),(67,.val tI)],[],[.rowC 138512 56 bg,.mapC 55 tI tI],aN _⟩),
 (200007,⟨[(1,.val (.slice az)),(3,.val (.slice aA)),(4,.val tI),(5,.ref 5 0),(7,.ref 7 0),(13,.val tI)],[(5,Dk),(7,o8)],[],fun _=>0⟩),
 (200013,⟨[(18,.own 42 lE)],[],[],fun _=>0⟩),
 (300007,⟨[(45,.val .bool)],[],[],fun _=>0⟩)]
def HU:av:=⟨[.val aY,.val (.slice az),.val an,.val (.slice aA),.val tI],[.row 42 lE,.val tI],fun x=>Bl x.1 x.2.1 x.2.2.1 x.2.2.2.1 x.2.2.2.2.1⟩
noncomputable def RA:Cx:=⟨tpr,[(19,HV),(20,qR),(21,N4),(22,zL),(23,E8),(24,ov)],[]⟩
theorem RV:FB 5 HU:=fbk RA OF none (by intro x;kernel_rfl) (cz RW (cz uz (cz W5 (cz Ed (cz Ky (cz rK (.nil _))))))) Tryz.func5
def D5:List (Nat×Ann):=[(4,⟨[(0,.val (.slice lE)),(1,.val (.slice lE)),(12,.val tI),(13,.val tI)],[],[],aN _⟩),
 (200004,⟨[],[],[],fun _=>0⟩)]
def wU:av:=⟨[.val (.slice lE),.val (.slice lE)],[.val .bool],fun x=>mC x.1 x.2.1⟩
noncomputable def FP:Cx:=⟨tpr,[],[]⟩
theorem Ga:FB 6 wU:=fbk FP D5 none (by intro x;kernel_rfl) (.nil _) Tryz.func6
def ox:av:=⟨[.val (.slice cE)],[.row 83 cE],fun x=>ji x.1⟩
noncomputable def FN:Cx:=⟨tpr,[],[]⟩
theorem vW:FB 29 ox:=fbk FN [] none (by intro x;kernel_rfl) (.nil _) Tryz.func29
def P3:List (Nat×Ann):=[(14,⟨[(7,.ref 7 0),(8,.ref 8 0),(14,.ref 14 0),(62,.val (.slice bg)),(63,.val tI),(64,.val tI)],[(7,pT),(8,Rs),(14,abn)],[.rowC 60 83 cE],aN _⟩),
 (200014,⟨[(8,.ref 8 0),(14,.ref 14 0)],[(8,Rs),(14,abn)],[.rowC 60 83 cE],fun _=>0⟩)]
def JQ:av:=⟨[.val aY,.val (.slice az),.val .str,.val aA],[.val aA,.val tI],fun x=>CJ x.1 x.2.1 x.2.2.1 x.2.2.2.1⟩
noncomputable def Tu:Cx:=⟨tpr,[(15,BL),(17,jY),(18,oo),(25,kN),(26,Ac),(27,gN),(28,ny),(29,ox)],[]⟩
theorem TM:FB 7 JQ:=fbk Tu P3 none (by intro x;kernel_rfl) (cz FW (cz mN (cz sO (cz oH (cz FX (cz iO (cz sP (cz vW (.nil _))))))))) Tryz.func7
def Rc:List (Nat×Ann):=[(11,⟨[(7,.ref 7 0),(8,.ref 8 0),(13,.ref 13 0),(54,.rowR 56592),(55,.val tI),(56,.val tI)],[(7,pT),(8,Rs),(13,abm)],[.rowC 52 83 cE,.rowC 56592 56 bg],aN _⟩),
 (200011,⟨[(8,.ref 8 0),(13,.ref 13 0)],[(8,Rs),(13,abm)],[.rowC 52 83 cE],fun _=>0⟩)]
def LM:av:=⟨[.val aY,.val (.slice az),.val .str,.val aA],[.val aA,.val tI],fun x=>E4 x.1 x.2.1 x.2.2.1 x.2.2.2.1⟩
noncomputable def VE:Cx:=⟨tpr,[(22,zL),(23,E8),(24,ov),(29,ox),(30,ou),(31,uV)],[]⟩
theorem VQ:FB 8 LM:=fbk VE Rc none (by intro x;kernel_rfl) (cz Ed (cz Ky (cz rK (cz vW (cz rJ (cz B3 (.nil _))))))) Tryz.func8
def De:List (Nat×Ann):=[(4,⟨[(0,.val (.slice dL)),(1,.val (.slice dL)),(12,.val tI),(13,.val tI)],[],[],aN _⟩),
 (200004,⟨[],[],[],fun _=>0⟩)]
def vw:av:=⟨[.val (.slice dL),.val (.slice dL)],[.val .bool],fun x=>iL x.1 x.2.1⟩
noncomputable def EM:Cx:=⟨tpr,[],[]⟩
theorem ET:FB 32 vw:=fbk EM De none (by intro x;kernel_rfl) (.nil _) Tryz.func32
def D4:List (Nat×Ann):=[(4,⟨[(0,.val (.slice cE)),(1,.val (.slice cE)),(12,.val tI),(13,.val tI)],[],[],aN _⟩),
 (200004,⟨[],[],[],fun _=>0⟩)]
def wT:av:=⟨[.val (.slice cE),.val (.slice cE)],[.val .bool],fun x=>mB x.1 x.2.1⟩
noncomputable def FO:Cx:=⟨tpr,[],[]⟩
theorem F9:FB 33 wT:=fbk FO D4 none (by intro x;kernel_rfl) (.nil _) Tryz.func33
def Vs:List (Nat×Ann):=[(4,⟨[(2,.ref 2 0),(3,.ref 3 0),(58,.val (.slice c9)),(59,.val tI),(60,.val tI)],[(2,pT),(3,pT)],[],aN _⟩),
 (200004,⟨[(2,.ref 2 0),(3,.ref 3 0)],[(2,pT),(3,pT)],[],fun _=>0⟩),
 (300010,⟨[(4,.val .bool)],[],[],fun _=>0⟩)]
def PL:av:=⟨[.val aA,.val aA],[.val .bool],fun x=>Cp x.1 x.2.1⟩
noncomputable def Yf:Cx:=⟨tpr,[(32,vw),(33,wT)],[]⟩
theorem Yx:FB 9 PL:=fbk Yf Vs none (by intro x;kernel_rfl) (cz ET (cz F9 (.nil _))) Tryz.func9
end Go.Proofs.SeatA
end
