/-
  Each function that the law reaches is as its plain model says, a further part. No condition.
-/
import Derived.Test.YtnamfglkolhhgaaGreatDoorYy
set_option linter.all false
set_option maxRecDepth 100000
noncomputable section
namespace Go.Proofs.SeatU
open Go.Dn Go.Md Go.Proofs
def uP:List CK:=[.own 50 bA,.own 64 av]
def KQ:List CK:=[.rowR 10250001,.rowR 10250002]
def eY:List CK:=[.val .bool,.own 3 tI]
def dM:List CK:=[.val .bool,.val (.slice tI)]
def Gp:List CK:=[.val .str,.val .str,.val tI,.val (.slice bh)]
def EY:ay:=⟨[.val bR,.val tI],[.val av],fun x=>xG x.1 x.2.1⟩
noncomputable def WO:Cx:=⟨tpr,[(64,tW),(99,oK),(100,CW)],[]⟩
theorem VH:aT WO [] none Tryz.f52 EY:=by intro x;kernel_rfl
theorem Re:aq tpr 52:=aj Tryz.func52 rfl (by decide)
theorem RL:aD tpr 52 EY:=aJ VH (.cons AL Ay (.cons yX yR (.cons Tl Ta (.nil _)))) aN Tryz.func52
def xS:ay:=⟨[.val av],[.val av],fun x=>AX x.1⟩
noncomputable def SG:Cx:=⟨tpr,[],[]⟩
theorem QT:aT SG [] none Tryz.f121 xS:=by intro x;kernel_rfl
theorem Ji:aq tpr 121:=aj Tryz.func121 rfl (by decide)
theorem Jn:aD tpr 121 xS:=aJ QT (.nil _) aN Tryz.func121
def O1:List (Nat×Ann):=[(4,⟨[(0,.val (.slice tI)),(1,.val (.slice tI)),(5,.val tI)],[],[],aW _⟩),
 (200004,⟨[],[],[],fun _=>0⟩)]
def xT:ay:=⟨[.val (.slice tI),.val (.slice tI)],[.val tI],fun x=>wM x.1 x.2.1⟩
noncomputable def SM:Cx:=⟨tpr,[],[]⟩
theorem QY:aT SM O1 none Tryz.f96 xT:=by intro x;kernel_rfl
theorem Jj:aq tpr 96:=aj Tryz.func96 rfl (by decide)
theorem Jo:aD tpr 96 xT:=aJ QY (.nil _) aN Tryz.func96
def CY:ay:=⟨[.val (.slice tI),.val tI],[.val tI],fun x=>wK x.1 x.2.1⟩
noncomputable def SK:Cx:=⟨tpr,[],[]⟩
theorem QW:aT SK [] none Tryz.f97 CY:=by intro x;kernel_rfl
theorem Tc:aq tpr 97:=aj Tryz.func97 rfl (by decide)
theorem Tn:aD tpr 97 CY:=aJ QW (.nil _) aN Tryz.func97
def Ql:List (Nat×Ann):=[(7,⟨[(2,.ref 2 0),(3,.ref 3 0),(4,.ref 4 0),(5,.ref 5 0),(6,.val tI),(31,.val tI),(32,.val tI)],[(2,dM),(3,dM),(4,eY),(5,eY)],[],aW _⟩),
 (19,⟨[(2,.ref 2 0),(3,.ref 3 0),(4,.ref 4 0),(9,.ref 9 0),(10,.val tI),(70,.val tI),(71,.val tI)],[(2,dM),(3,dM),(4,eY),(9,eY)],[],aW _⟩),
 (100003,⟨[(2,.ref 2 0),(3,.ref 3 0),(4,.ref 4 0)],[(2,dM),(3,dM),(4,eY)],[],fun _=>0⟩),
 (100012,⟨[(2,.ref 2 0),(3,.ref 3 0),(4,.ref 4 0),(5,.ref 5 0),(6,.val tI),(8,.val tI),(31,.val tI),(32,.val tI)],[(2,dM),(3,dM),(4,eY),(5,eY)],[],fun _=>0⟩),
 (200007,⟨[(4,.ref 4 0),(5,.ref 5 0)],[(4,eY),(5,eY)],[],fun _=>0⟩),
 (200019,⟨[(4,.ref 4 0),(9,.ref 9 0)],[(4,eY),(9,eY)],[],fun _=>0⟩)]
def vI:ay:=⟨[.val av,.val av],[.val av],fun x=>rA x.1 x.2.1⟩
noncomputable def Ux:Cx:=⟨tpr,[(96,xT),(97,CY),(98,oL)],[]⟩
theorem SQ:aT Ux Ql none Tryz.f51 vI:=by intro x;kernel_rfl
theorem El:aq tpr 51:=aj Tryz.func51 rfl (by decide)
theorem EE:aD tpr 51 vI:=aJ SQ (.cons Jo Jj (.cons Tn Tc (.cons yY yS (.nil _)))) aN Tryz.func51
def vJ:ay:=⟨[.val av],[.val tI],fun x=>wJ x.1⟩
noncomputable def Uy:Cx:=⟨tpr,[],[]⟩
theorem SR:aT Uy [] none Tryz.f65 vJ:=by intro x;kernel_rfl
theorem Em:aq tpr 65:=aj Tryz.func65 rfl (by decide)
theorem EF:aD tpr 65 vJ:=aJ SR (.nil _) aN Tryz.func65
def Ce:ay:=⟨[.val av,.val av],[.val tI],fun x=>DE x.1 x.2.1⟩
noncomputable def VG:Cx:=⟨tpr,[(51,vI),(65,vJ),(121,xS)],[]⟩
theorem UB:aT VG [] none Tryz.f120 Ce:=by intro x;kernel_rfl
theorem Oj:aq tpr 120:=aj Tryz.func120 rfl (by decide)
theorem OC:aD tpr 120 Ce:=aJ UB (.cons EE El (.cons EF Em (.cons Jn Ji (.nil _)))) aN Tryz.func120
def EX:ay:=⟨[.val bR,.val bR],[.val tI],fun x=>Ig x.1 x.2.1⟩
noncomputable def Uw:Cx:=⟨tpr,[(52,EY),(120,Ce)],[]⟩
theorem SO:aT Uw [] none Tryz.f89 EX:=by intro x;kernel_rfl
theorem UF:aq tpr 89:=aj Tryz.func89 rfl (by decide)
theorem UZ:aD tpr 89 EX:=aJ SO (.cons RL Re (.cons OC Oj (.nil _))) aN Tryz.func89
def s7:ay:=⟨[.val bR,.val .bool],[.val .bool],fun x=>jm x.1 x.2.1⟩
noncomputable def Pd:Cx:=⟨tpr,[(88,qH),(89,EX)],[]⟩
theorem MR:aT Pd [] none Tryz.f43 s7:=by intro x;kernel_rfl
theorem Fi:aq tpr 43:=aj Tryz.func43 rfl (by decide)
theorem Fl:aD tpr 43 s7:=aJ MR (.cons Hj GV (.cons UZ UF (.nil _))) aN Tryz.func43
def C6:List (Nat×Ann):=[(2,⟨[(22,.val (.slice tI)),(23,.val tI),(24,.val tI)],[],[],aW _⟩),
 (200002,⟨[],[],[],fun _=>0⟩)]
def kD:ay:=⟨[.val bA,.val bA],[.val tI],fun x=>fE x.1 x.2.1⟩
noncomputable def Fy:Cx:=⟨tpr,[(28,iy)],[]⟩
theorem D5:aT Fy C6 none Tryz.f48 kD:=by intro x;kernel_rfl
theorem vV:aq tpr 48:=aj Tryz.func48 rfl (by decide)
theorem vX:aD tpr 48 kD:=aJ D5 (.cons qm qd (.nil _)) aN Tryz.func48
def Cm:List (Nat×Ann):=[(4,⟨[(0,.val (.slice bA)),(8,.val (.slice bA)),(9,.val tI),(10,.val tI)],[],[],aW _⟩),
 (200004,⟨[],[],[],fun _=>0⟩)]
def n9:ay:=⟨[.val (.slice bA)],[.val tI],fun x=>jd x.1⟩
noncomputable def D2:Cx:=⟨tpr,[(30,qI),(43,s7),(48,kD)],[]⟩
theorem Dj:aT D2 Cm none Tryz.f44 n9:=by intro x;kernel_rfl
theorem Ek:aq tpr 44:=aj Tryz.func44 rfl (by decide)
theorem ED:aD tpr 44 n9:=aJ Dj (.cons AK Ax (.cons Fl Fi (.cons vX vV (.nil _)))) aN Tryz.func44
def Is:List (Nat×Ann):=[(2,⟨[(1,.val .str),(7,.val (.slice bh)),(8,.val tI),(9,.val tI)],[],[],aW _⟩),
 (200002,⟨[],[],[],fun _=>0⟩)]
def gj:ay:=⟨[.val (.slice bh),.val .str],[.val tI],fun x=>gh x.1 x.2.1⟩
noncomputable def KV:Cx:=⟨tpr,[],[]⟩
theorem J1:aT KV Is none Tryz.f16 gj:=by intro x;kernel_rfl
theorem lp:aq tpr 16:=aj Tryz.func16 rfl (by decide)
theorem lz:aD tpr 16 gj:=aJ J1 (.nil _) aN Tryz.func16
def Ms:List (Nat×Ann):=[(3,⟨[(0,.val (.slice bh)),(1,.val tI),(5,.val tI),(8,.val tI),(9,.val tI)],[],[],aW _⟩),
 (200003,⟨[],[],[],fun _=>0⟩)]
def Bf:ay:=⟨[.val (.slice bh),.val tI],[.val .bool],fun x=>B8 x.1 x.2.1⟩
noncomputable def QB:Cx:=⟨tpr,[(16,gj)],[]⟩
theorem Pm:aT QB Ms none Tryz.f90 Bf:=by intro x;kernel_rfl
theorem Rb:aq tpr 90:=aj Tryz.func90 rfl (by decide)
theorem RI:aD tpr 90 Bf:=aJ Pm (.cons lz lp (.nil _)) aN Tryz.func90
def Sv:List (Nat×Ann):=[(2,⟨[(0,.val (.slice bh)),(1,.val tI),(6,.own 3 tI)],[],[],aW _⟩),
 (200002,⟨[(6,.own 3 tI)],[],[],fun _=>0⟩)]
def Cd:ay:=⟨[.val (.slice bh),.val tI],[.row 3 tI,.val .bool],fun x=>Hy x.1 x.2.1⟩
noncomputable def VF:Cx:=⟨tpr,[(16,gj)],[]⟩
theorem UA:aT VF Sv none Tryz.f46 Cd:=by intro x;kernel_rfl
theorem Oi:aq tpr 46:=aj Tryz.func46 rfl (by decide)
theorem OB:aD tpr 46 Cd:=aJ UA (.cons lz lp (.nil _)) aN Tryz.func46
def Mt:List (Nat×Ann):=[(2,⟨[(0,.val (.slice bh)),(9,.val (.slice bh)),(10,.val tI),(11,.val tI)],[],[],aW _⟩),
 (8,⟨[(0,.val (.slice bh)),(27,.val tI),(28,.val tI)],[],[],aW _⟩),
 (14,⟨[(0,.val (.slice bh)),(36,.val tI),(37,.val tI)],[],[],aW _⟩),
 (200002,⟨[(0,.val (.slice bh))],[],[],fun _=>0⟩),
 (200008,⟨[(0,.val (.slice bh))],[],[],fun _=>0⟩),
 (200014,⟨[],[],[],fun _=>0⟩)]
def Bg:ay:=⟨[.val (.slice bh)],[.val tI],fun x=>B9 x.1⟩
noncomputable def QC:Cx:=⟨tpr,[(16,gj),(46,Cd),(90,Bf)],[]⟩
theorem Pn:aT QC Mt none Tryz.f45 Bg:=by intro x;kernel_rfl
theorem Rc:aq tpr 45:=aj Tryz.func45 rfl (by decide)
theorem RJ:aD tpr 45 Bg:=aJ Pn (.cons lz lp (.cons OB Oi (.cons RI Rb (.nil _)))) aN Tryz.func45
def DV:List (Nat×Ann):=[(8,⟨[(1,.ref 1 0),(28,.val (.slice bh)),(29,.val tI),(30,.val tI)],[(1,Gp)],[],aW _⟩),
 (200008,⟨[(1,.ref 1 0)],[(1,Gp)],[],fun _=>0⟩)]
def lU:ay:=⟨[.val bV],[.val tI],fun x=>lI x.1⟩
noncomputable def Gy:Cx:=⟨tpr,[(30,qI),(41,CU),(42,wU),(43,s7),(44,n9),(45,Bg)],[]⟩
theorem FF:aT Gy DV none Tryz.f15 lU:=by intro x;kernel_rfl
theorem x8:aq tpr 15:=aj Tryz.func15 rfl (by decide)
theorem yj:aD tpr 15 lU:=aJ FF (.cons AK Ax (.cons Tk S9 (.cons Nw M6 (.cons Fl Fi (.cons ED Ek (.cons RJ Rc (.nil _))))))) aN Tryz.func15
def KH:List (Nat×Ann):=[(3,⟨[(0,.val (.slice bh)),(1,.val .str),(5,.own 3 tI),(10,.val tI),(11,.val tI)],[],[],aW _⟩),
 (200003,⟨[(5,.own 3 tI)],[],[],fun _=>0⟩)]
def zh:ay:=⟨[.val (.slice bh),.val .str],[.val (.slice tI)],fun x=>nQ x.1 x.2.1⟩
noncomputable def Pc:Cx:=⟨tpr,[(16,gj),(46,Cd),(47,fh)],[]⟩
theorem MQ:aT Pc KH none Tryz.f17 zh:=by intro x;kernel_rfl
theorem PA:aq tpr 17:=aj Tryz.func17 rfl (by decide)
theorem PG:aD tpr 17 zh:=aJ MQ (.cons lz lp (.cons OB Oi (.cons mg l8 (.nil _)))) aN Tryz.func17
def vH:ay:=⟨[.val bR],[.val av],fun x=>qy x.1⟩
noncomputable def QD:Cx:=⟨tpr,[(52,EY)],[]⟩
theorem Po:aT QD [] none Tryz.f19 vH:=by intro x;kernel_rfl
theorem GU:aq tpr 19:=aj Tryz.func19 rfl (by decide)
theorem Hi:aD tpr 19 vH:=aJ Po (.cons RL Re (.nil _)) aN Tryz.func19
def It:List (Nat×Ann):=[(3,⟨[(0,.ref 2000 0),(4,.ref 4 0),(5,.ref 5 0),(6,.val tI)],[(4,[.val .str,.val .str,.val .str,.val tI,.val tI]),(5,dM),(2000,KQ)],[.rowC 10250001 50 bA,.rowC 10250002 64 av],aW _⟩),
 (100006,⟨[(0,.ref 2000 0),(5,.ref 5 0),(6,.val tI)],[(5,dM),(2000,uP)],[],fun _=>0⟩),
 (200003,⟨[(0,.ref 2000 0),(4,.ref 4 0),(5,.ref 5 0),(6,.val tI)],[(4,[.val .str,.val .str,.val .str,.val tI,.val tI]),(5,dM),(2000,KQ)],[.rowC 10250001 50 bA,.rowC 10250002 64 av],fun _=>0⟩),
 (300003,⟨[(27,.val .bool)],[],[],fun _=>0⟩)]
def pS:ay:=⟨[.box [.row 50 bA,.row 64 av],.val bA,.val av],[],fun x=>mT x.1 x.2.1 x.2.2.1⟩
noncomputable def KW:Cx:=⟨tpr,[(48,kD),(49,mZ),(50,iw),(51,vI)],[]⟩
theorem J2:aT KW It none Tryz.f18 pS:=by intro x;kernel_rfl
theorem BX:aq tpr 18:=aj Tryz.func18 rfl (by decide)
theorem B4:aD tpr 18 pS:=aJ J2 (.cons vX vV (.cons wC wA (.cons qj qc (.cons EE El (.nil _))))) aN Tryz.func18
def Qm:List (Nat×Ann):=[(4,⟨[(1,.ref 1 0),(2,.ref 2 0),(4,.ref 4 0),(5,.val tI),(6,.val tI)],[(1,dM),(2,eY),(4,[.val .bool,.rowR 11])],[.rowC 11 3 tI],aW _⟩),
 (200004,⟨[(2,.ref 2 0),(4,.ref 4 0),(5,.val tI)],[(2,eY),(4,[.val .bool,.rowR 11])],[.rowC 11 3 tI],fun _=>0⟩)]
def EZ:ay:=⟨[.val av],[.val av,.val tI],fun x=>Ih x.1⟩
noncomputable def Uz:Cx:=⟨tpr,[(98,oL)],[]⟩
theorem SS:aT Uz Qm none Tryz.f119 EZ:=by intro x;kernel_rfl
theorem UG:aq tpr 119:=aj Tryz.func119 rfl (by decide)
theorem U0:aD tpr 119 EZ:=aJ SS (.cons yY yS (.nil _)) aN Tryz.func119
def Mu:List (Nat×Ann):=[(3,⟨[(3,.ref 3 0),(4,.ref 4 0),(5,.ref 5 0),(6,.own 3 tI),(7,.ref 7 0)],[(3,dM),(4,eY),(5,eY),(7,dM)],[],fun x=>20*x.2.2.2.2.2.2.2.2.1.length+2⟩),
 (11,⟨[(3,.ref 3 0),(4,.ref 4 0),(5,.ref 5 0),(6,.own 3 tI),(10,.ref 10 0),(11,.ref 11 0),(12,.ref 12 0),(13,.val tI)],[(3,dM),(4,eY),(5,eY),(10,dM),(11,dM),(12,dM)],[],aW _⟩),
 (200003,⟨[(3,.ref 3 0),(4,.ref 4 0),(5,.ref 5 0),(6,.own 3 tI)],[(3,dM),(4,eY),(5,eY)],[],fun _=>0⟩),
 (200011,⟨[(4,.ref 4 0),(5,.ref 5 0),(10,.ref 10 0),(11,.ref 11 0)],[(4,eY),(5,eY),(10,dM),(11,dM)],[],fun _=>0⟩)]
def Bh:ay:=⟨[.val av,.val av],[.val av,.val av],fun x=>Ca x.1 x.2.1⟩
noncomputable def QE:Cx:=⟨tpr,[(51,vI),(64,tW),(65,vJ),(99,oK),(119,EZ),(120,Ce),(121,xS)],[]⟩
theorem Pp:aT QE Mu none Tryz.f63 Bh:=by intro x;kernel_rfl
theorem Rf:aq tpr 63:=aj Tryz.func63 rfl (by decide)
theorem RN:aD tpr 63 Bh:=aJ Pp (.cons EE El (.cons AL Ay (.cons EF Em (.cons yX yR (.cons U0 UG (.cons OC Oj (.cons Jn Ji (.nil _)))))))) aN Tryz.func63
def O0:List (Nat×Ann):=[(5,⟨[(2,.ref 2 0),(6,.val tI),(7,.val tI)],[(2,dM)],[],aW _⟩),
 (200005,⟨[(2,.ref 2 0),(6,.val tI)],[(2,dM)],[],fun _=>0⟩)]
def CX:ay:=⟨[.val av,.val tI],[.val tI,.val .bool],fun x=>ER x.1 x.2.1⟩
noncomputable def SJ:Cx:=⟨tpr,[(64,tW),(96,xT)],[]⟩
theorem QV:aT SJ O0 none Tryz.f66 CX:=by intro x;kernel_rfl
theorem Tb:aq tpr 66:=aj Tryz.func66 rfl (by decide)
theorem Tm:aD tpr 66 CX:=aJ QV (.cons AL Ay (.cons Jo Jj (.nil _))) aN Tryz.func66
def OY:List (Nat×Ann):=[(2,⟨[(1,.ref 1 0),(2,.ref 2 0),(4,.val tI)],[(1,dM),(2,[.val tI,.val tI])],[],aW _⟩),
 (200002,⟨[(1,.ref 1 0),(2,.ref 2 0),(4,.val tI)],[(1,dM),(2,[.val tI,.val tI])],[],fun _=>0⟩)]
def xR:ay:=⟨[.val av],[.val bR,.val tI],fun x=>AU x.1⟩
noncomputable def SE:Cx:=⟨tpr,[(63,Bh),(64,tW),(65,vJ),(66,CX)],[]⟩
theorem QO:aT SE OY none Tryz.f31 xR:=by intro x;kernel_rfl
theorem Jh:aq tpr 31:=aj Tryz.func31 rfl (by decide)
theorem Jm:aD tpr 31 xR:=aJ QO (.cons RN Rf (.cons AL Ay (.cons EF Em (.cons Tm Tb (.nil _))))) aN Tryz.func31
def Fv:List (Nat×Ann):=[(3,⟨[(0,.ref 2000 0),(4,.own 33 bT),(12,.rowR 10250001),(13,.val tI),(14,.val tI)],[(2000,KQ)],[.rowC 10250001 50 bA,.rowC 10250002 64 av],aW _⟩),
 (200003,⟨[(4,.own 33 bT)],[(2000,KQ)],[.rowC 10250001 50 bA,.rowC 10250002 64 av],fun _=>0⟩)]
def rR:ay:=⟨[.box [.row 50 bA,.row 64 av]],[.val (.slice bT),.val tI],fun x=>rz x.1⟩
noncomputable def IA:Cx:=⟨tpr,[(31,xR)],[]⟩
theorem GI:aT IA Fv none Tryz.f20 rR:=by intro x;kernel_rfl
theorem IT:aq tpr 20:=aj Tryz.func20 rfl (by decide)
theorem I2:aD tpr 20 rR:=aJ GI (.cons Jm Jh (.nil _)) aN Tryz.func20
def KG:List (Nat×Ann):=[(8,⟨[(2,.ref 2 0),(7,.ref 7 0),(29,.val (.slice tI)),(30,.val tI),(31,.val tI)],[(2,Gp),(7,uP)],[],aW _⟩),
 (11,⟨[(2,.ref 2 0),(7,.ref 7 0),(29,.val (.slice tI)),(30,.val tI),(31,.val tI),(40,.val (.slice bA)),(41,.val tI),(42,.val tI)],[(2,Gp),(7,uP)],[],aW _⟩),
 (200008,⟨[(7,.ref 7 0)],[(7,uP)],[],fun _=>0⟩),
 (200011,⟨[(2,.ref 2 0),(7,.ref 7 0),(29,.val (.slice tI)),(30,.val tI),(31,.val tI)],[(2,Gp),(7,uP)],[],fun _=>0⟩),
 (300004,⟨[(25,.val .bool)],[],[],fun _=>0⟩)]
def zg:ay:=⟨[.val bV,.val .str],[.val (.slice bT),.val tI],fun x=>zU x.1 x.2.1⟩
noncomputable def Pb:Cx:=⟨tpr,[(15,lU),(16,gj),(17,zh),(18,pS),(19,vH),(20,rR)],[]⟩
theorem MP:aT Pb KG none Tryz.f5 zg:=by intro x;kernel_rfl
theorem Pz:aq tpr 5:=aj Tryz.func5 rfl (by decide)
theorem PF:aD tpr 5 zg:=aJ MP (.cons yj x8 (.cons lz lp (.cons PG PA (.cons B4 BX (.cons Hi GU (.cons I2 IT (.nil _))))))) aN Tryz.func5
def xX:List (Nat×Ann):=[(4,⟨[(0,.val (.slice bT)),(1,.val (.slice bT)),(12,.val tI),(13,.val tI)],[],[],aW _⟩),
 (200004,⟨[],[],[],fun _=>0⟩)]
def jt:ay:=⟨[.val (.slice bT),.val (.slice bT)],[.val .bool],fun x=>gU x.1 x.2.1⟩
noncomputable def zC:Cx:=⟨tpr,[],[]⟩
theorem yM:aT zC xX none Tryz.f6 jt:=by intro x;kernel_rfl
theorem zI:aq tpr 6:=aj Tryz.func6 rfl (by decide)
theorem zO:aD tpr 6 jt:=aJ yM (.nil _) aN Tryz.func6
def mq:ay:=⟨[.map aG aI,.val aG,.val bR],[],fun x=>pe x.1 x.2.1 x.2.2.1⟩
noncomputable def Cs:Cx:=⟨tpr,[(35,mu),(36,mD),(37,nU)],[]⟩
theorem BE:aT Cs [] none Tryz.f23 mq:=by intro x;kernel_rfl
theorem Cz:aq tpr 23:=aj Tryz.func23 rfl (by decide)
theorem CI:aD tpr 23 mq:=aJ BE (.cons se rZ (.cons zm zk (.cons AF Ar (.nil _)))) aN Tryz.func23
def JI:List (Nat×Ann):=[(8,⟨[(1,.val .str),(7,.mapR 26),(28,.val (.slice bh)),(29,.val tI),(30,.val tI)],[],[.mapC 26 aG aI],aW _⟩),
 (11,⟨[(1,.val .str),(7,.mapR 26),(28,.val (.slice bh)),(29,.val tI),(30,.val tI),(35,.val (.slice bA)),(36,.val tI),(37,.val tI)],[],[.mapC 26 aG aI],aW _⟩),
 (20,⟨[(7,.mapR 26),(12,.own 39 bT),(59,.rowR 58),(60,.val tI),(61,.val tI)],[],[.rowC 58 72 aG,.mapC 26 aG aI],aW _⟩),
 (200008,⟨[(7,.mapR 26)],[],[.mapC 26 aG aI],fun _=>0⟩),
 (200011,⟨[(1,.val .str),(7,.mapR 26),(28,.val (.slice bh)),(29,.val tI),(30,.val tI)],[],[.mapC 26 aG aI],fun _=>0⟩),
 (200020,⟨[(12,.own 39 bT)],[],[],fun _=>0⟩)]
def wS:ay:=⟨[.val bV,.val .str],[.row 39 bT,.val tI],fun x=>xB x.1 x.2.1⟩
noncomputable def ME:Cx:=⟨tpr,[(21,iM),(22,oI),(23,mq),(29,rG)],[(24,VX),(25,VY)]⟩
theorem K4:aT ME JI none Tryz.f7 wS:=by intro x;kernel_rfl
theorem M4:aq tpr 7:=aj Tryz.func7 rfl (by decide)
theorem Nu:aD tpr 7 wS:=aJ K4 (.PZ YC Yy (.PZ YD Yz (.cons uz uu (.cons yV yQ (.cons CI Cz (.cons Dx Dq (.nil _))))))) aN Tryz.func7
def OX:List (Nat×Ann):=[(8,⟨[(1,.val .str),(7,.ref 7 0),(26,.val (.slice bh)),(27,.val tI),(28,.val tI)],[(7,uP)],[],aW _⟩),
 (11,⟨[(1,.val .str),(7,.ref 7 0),(26,.val (.slice bh)),(27,.val tI),(28,.val tI),(33,.val (.slice bA)),(34,.val tI),(35,.val tI)],[(7,uP)],[],aW _⟩),
 (19,⟨[(7,.ref 7 0),(12,.own 39 bT),(55,.val (.slice bA)),(56,.val tI),(57,.val tI)],[(7,[.val (.slice bA),.own 64 av])],[],aW _⟩),
 (200008,⟨[(7,.ref 7 0)],[(7,uP)],[],fun _=>0⟩),
 (200011,⟨[(1,.val .str),(7,.ref 7 0),(26,.val (.slice bh)),(27,.val tI),(28,.val tI)],[(7,uP)],[],fun _=>0⟩),
 (200019,⟨[(12,.own 39 bT)],[],[],fun _=>0⟩)]
def CT:ay:=⟨[.val bV,.val .str],[.val (.slice bT),.val tI],fun x=>EN x.1 x.2.1⟩
noncomputable def SD:Cx:=⟨tpr,[(15,lU),(18,pS),(19,vH),(30,qI),(31,xR)],[]⟩
theorem QN:aT SD OX none Tryz.f8 CT:=by intro x;kernel_rfl
theorem S8:aq tpr 8:=aj Tryz.func8 rfl (by decide)
theorem Tj:aD tpr 8 CT:=aJ QN (.cons yj x8 (.cons B4 BX (.cons Hi GU (.cons AK Ax (.cons Jm Jh (.nil _)))))) aN Tryz.func8
def xY:List (Nat×Ann):=[(4,⟨[(0,.val (.slice bT)),(1,.val (.slice bT)),(12,.val tI),(13,.val tI)],[],[],aW _⟩),
 (200004,⟨[],[],[],fun _=>0⟩)]
def jv:ay:=⟨[.val (.slice bT),.val (.slice bT)],[.val .bool],fun x=>gV x.1 x.2.1⟩
noncomputable def zD:Cx:=⟨tpr,[],[]⟩
theorem yN:aT zD xY none Tryz.f9 jv:=by intro x;kernel_rfl
theorem zJ:aq tpr 9:=aj Tryz.func9 rfl (by decide)
theorem zR:aD tpr 9 jv:=aJ yN (.nil _) aN Tryz.func9
def JJ:List (Nat×Ann):=[(5,⟨[(4,.val tI),(15,.val tI),(16,.val tI)],[],[],aW _⟩),
 (200005,⟨[(4,.val tI)],[],[],fun _=>0⟩)]
def wT:ay:=⟨[.val .str],[.val tI,.val .bool],fun x=>Jq x.1⟩
noncomputable def MF:Cx:=⟨tpr,[(122,pR)],[]⟩
theorem K5:aT MF JJ none Tryz.f67 wT:=by intro x;kernel_rfl
theorem M5:aq tpr 67:=aj Tryz.func67 rfl (by decide)
theorem Nv:aD tpr 67 wT:=aJ K5 (.cons B3 BW (.nil _)) aN Tryz.func67
def C4:List (Nat×Ann):=[(16,⟨[(0,.val tI),(1,.val .str),(49,.val tI)],[],[],aW _⟩),
 (200016,⟨[],[],[],fun _=>0⟩)]
def pq:ay:=⟨[.val tI,.val .str],[.val .str,.val tI],fun x=>Af x.1 x.2.1⟩
noncomputable def Fw:Cx:=⟨tpr,[(69,pT),(124,nV),(125,Ba),(126,vD),(127,Bb),(128,tU),(129,lT)],[]⟩
theorem D3:aT Fw C4 none Tryz.f70 pq:=by intro x;kernel_rfl
theorem FJ:aq tpr 70:=aj Tryz.func70 rfl (by decide)
theorem FM:aD tpr 70 pq:=aJ D3 (.cons B5 BY (.cons AH Au (.cons Ki J9 (.cons Ez Eg (.cons Kj Ka (.cons AG As (.cons yh x7 (.nil _)))))))) aN Tryz.func70
def rN:ay:=⟨[.val .str,.val tI],[.val .str,.val tI],fun x=>Dz x.1 x.2.1⟩
noncomputable def Iw:Cx:=⟨tpr,[(67,wT),(68,jE),(69,pT),(70,pq),(71,rS)],[]⟩
theorem GD:aT Iw [] none Tryz.f32 rN:=by intro x;kernel_rfl
theorem IN:aq tpr 32:=aj Tryz.func32 rfl (by decide)
theorem IX:aD tpr 32 rN:=aJ GD (.cons Nv M5 (.cons q8 qX (.cons B5 BY (.cons FM FJ (.cons I3 IU (.nil _)))))) aN Tryz.func32
def Be:ay:=⟨[],[.val .bool],fun x=>G6 ⟩
noncomputable def QA:Cx:=⟨tpr,[(32,rN)],[]⟩
theorem Pk:aT QA [] none Tryz.f10 Be:=by intro x;kernel_rfl
theorem Ra:aq tpr 10:=aj Tryz.func10 rfl (by decide)
theorem RH:aD tpr 10 Be:=aJ Pk (.cons IX IN (.nil _)) aN Tryz.func10
def wj:List (Nat×Ann):=[(300007,⟨[(6,.val .bool)],[],[],fun _=>0⟩)]
def oJ:ay:=⟨[.val bV,.val .str,.val .str],[.val .bool],fun x=>gA x.1 x.2.1 x.2.2.1⟩
noncomputable def yJ:Cx:=⟨tpr,[(4,tV),(5,zg),(6,jt),(7,wS),(8,CT),(9,jv),(10,Be)],[]⟩
theorem x5:aT yJ wj none Tryz.f3 oJ:=by intro x;kernel_rfl
theorem yW:aD tpr 3 oJ:=aJ x5 (.cons Kk Kb (.cons PF Pz (.cons zO zI (.cons Nu M4 (.cons Tj S8 (.cons zR zJ (.cons RH Ra (.nil _)))))))) aN Tryz.func3
end Go.Proofs.SeatU
end
