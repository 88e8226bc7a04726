/-
  Each function that the law reaches is as its plain model says, a further part. No condition.
-/
import Derived.Test.YtjlkkapojeldlaaGreatDoorYz
set_option maxRecDepth 100000
noncomputable section
namespace Go.Proofs.SeatU
open Go.Dn Go.Md Go.Proofs
def BZ:List CK:=[.val .bool,.own 148 (.int .u32)]
def mj:List CK:=[.val .bool,.val (.slice (.int .u32))]
def mz:ax:=⟨[.val .bool,.val (.slice (.int .u32))],[.val dG],fun x=>gz x.1 x.2.1⟩
noncomputable def Kb:Cx:=⟨tpr,[(154,qJ)],[]⟩
theorem pZ:FB 151 mz:=fbk Kb [] none (by intro x;kernel_rfl) (cz wG (.nil _)) Tryz.func151
def J0:List (Nat×Ann):=[(100003,⟨[(0,.val tI),(2,.ref 2 0),(3,.val (.int .u64))],[(2,BZ)],[],fun _=>0⟩)]
def EO:ax:=⟨[.val tI],[.val dG],fun x=>tN x.1⟩
noncomputable def ML:Cx:=⟨tpr,[(151,mz)],[]⟩
theorem MU:FB 98 EO:=fbk ML J0 none (by intro x;kernel_rfl) (cz pZ (.nil _)) Tryz.func98
def Ab:List (Nat×Ann):=[(3,⟨[(2,.ref 2 0),(3,.ref 3 0),(4,.ref 4 0),(5,.rowR 18),(20,.val (.slice (.int .u32))),(21,.val tI),(22,.val tI)],[(2,mj),(3,mj),(4,BZ)],[.rowC 18 148 (.int .u32)],aY _⟩),
 (7,⟨[(2,.ref 2 0),(3,.ref 3 0),(4,.ref 4 0),(5,.rowR 18),(6,.val tI),(7,.val (.int .u32)),(8,.val (.int .u64)),(20,.val (.slice (.int .u32))),(21,.val tI),(22,.val tI),(28,.val (.slice (.int .u32))),(29,.val tI),(30,.val tI)],[(2,mj),(3,mj),(4,BZ)],[.rowC 18 148 (.int .u32)],aY _⟩),
 (200003,⟨[(2,.ref 2 0),(3,.ref 3 0),(4,.ref 4 0),(5,.rowR 18)],[(2,mj),(3,mj),(4,BZ)],[.rowC 18 148 (.int .u32)],fun _=>0⟩),
 (200007,⟨[(2,.ref 2 0),(3,.ref 3 0),(4,.ref 4 0),(5,.rowR 18),(6,.val tI),(8,.val (.int .u64)),(20,.val (.slice (.int .u32))),(21,.val tI),(22,.val tI)],[(2,mj),(3,mj),(4,BZ)],[.rowC 18 148 (.int .u32)],fun _=>0⟩)]
def uZ:ax:=⟨[.val dG,.val dG],[.val dG],fun x=>jQ x.1 x.2.1⟩
noncomputable def Cc:Cx:=⟨tpr,[(151,mz)],[]⟩
theorem Cm:FB 110 uZ:=fbk Cc Ab none (by intro x;kernel_rfl) (cz pZ (.nil _)) Tryz.func110
def E2:List (Nat×Ann):=[(6,⟨[(1,.val (.slice (.int .u32))),(5,.own 148 (.int .u32)),(6,.val (.int .u64)),(20,.val (.slice (.int .u32))),(21,.val tI),(22,.val tI)],[],[],aY _⟩),
 (100002,⟨[(0,.val (.slice (.int .u32))),(1,.val (.slice (.int .u32)))],[],[],fun _=>0⟩),
 (100010,⟨[(1,.val (.slice (.int .u32))),(5,.own 148 (.int .u32)),(6,.val (.int .u64)),(20,.val (.slice (.int .u32))),(21,.val tI),(22,.val tI)],[],[],fun _=>0⟩),
 (200006,⟨[(5,.own 148 (.int .u32)),(6,.val (.int .u64))],[],[],fun _=>0⟩)]
def zT:ax:=⟨[.val (.slice (.int .u32)),.val (.slice (.int .u32))],[.val (.slice (.int .u32))],fun x=>yJ x.1 x.2.1⟩
noncomputable def Ib:Cx:=⟨tpr,[],[]⟩
theorem Iq:FB 164 zT:=fbk Ib E2 none (by intro x;kernel_rfl) (.nil _) Tryz.func164
def BQ:List (Nat×Ann):=[(4,⟨[(0,.val (.slice (.int .u32))),(1,.val (.slice (.int .u32))),(5,.val tI)],[],[],aY _⟩),
 (200004,⟨[],[],[],fun _=>0⟩)]
def xg:ax:=⟨[.val (.slice (.int .u32)),.val (.slice (.int .u32))],[.val tI],fun x=>qo x.1 x.2.1⟩
noncomputable def Fb:Cx:=⟨tpr,[],[]⟩
theorem Fj:FB 165 xg:=fbk Fb BQ none (by intro x;kernel_rfl) (.nil _) Tryz.func165
def FZ:List (Nat×Ann):=[(4,⟨[(1,.val (.slice (.int .u32))),(5,.own 148 (.int .u32)),(6,.val (.int .u64)),(13,.val (.slice (.int .u32))),(14,.val tI),(15,.val tI)],[],[],aY _⟩),
 (100008,⟨[(1,.val (.slice (.int .u32))),(5,.own 148 (.int .u32)),(9,.val (.int .u64)),(13,.val (.slice (.int .u32))),(14,.val tI),(15,.val tI)],[],[],fun _=>0⟩),
 (200004,⟨[(5,.own 148 (.int .u32))],[],[],fun _=>0⟩)]
def Br:ax:=⟨[.val (.slice (.int .u32)),.val (.slice (.int .u32))],[.val (.slice (.int .u32))],fun x=>sE x.1 x.2.1⟩
noncomputable def Ka:Cx:=⟨tpr,[(154,qJ)],[]⟩
theorem Kg:FB 166 Br:=fbk Ka FZ none (by intro x;kernel_rfl) (cz wG (.nil _)) Tryz.func166
def vD:ax:=⟨[.val dG,.val dG],[.val dG],fun x=>k9 x.1 x.2.1⟩
noncomputable def DY:Cx:=⟨tpr,[(151,mz),(164,zT),(165,xg),(166,Br)],[]⟩
theorem D5:FB 111 vD:=fbk DY [] none (by intro x;kernel_rfl) (cz pZ (cz Iq (cz Fj (cz Kg (.nil _))))) Tryz.func111
def vE:ax:=⟨[.val dG],[.val tI],fun x=>ld x.1⟩
noncomputable def DZ:Cx:=⟨tpr,[],[]⟩
theorem D6:FB 112 vE:=fbk DZ [] none (by intro x;kernel_rfl) (.nil _) Tryz.func112
def uY:ax:=⟨[.val dG],[.val dG],fun x=>jP x.1⟩
noncomputable def Cb:Cx:=⟨tpr,[(151,mz)],[]⟩
theorem Cl:FB 113 uY:=fbk Cb [] none (by intro x;kernel_rfl) (cz pZ (.nil _)) Tryz.func113
def BP:List (Nat×Ann):=[(5,⟨[(1,.val tI),(2,.ref 2 0),(6,.val (.int .u64)),(14,.val (.slice (.int .u32))),(15,.val tI),(16,.val tI)],[(2,mj)],[],aY _⟩),
 (200005,⟨[(1,.val tI),(2,.ref 2 0),(6,.val (.int .u64))],[(2,mj)],[],fun _=>0⟩)]
def xe:ax:=⟨[.val dG,.val tI],[.val tI,.val .bool],fun x=>qn x.1 x.2.1⟩
noncomputable def Fa:Cx:=⟨tpr,[],[]⟩
theorem Fi:FB 167 xe:=fbk Fa BP none (by intro x;kernel_rfl) (.nil _) Tryz.func167
def zI:ax:=⟨[.val dG,.val tI],[.val cD,.val tI],fun x=>mD x.1 x.2.1⟩
noncomputable def HS:Cx:=⟨tpr,[(167,xe)],[]⟩
theorem Ih:FB 114 zI:=fbk HS [] none (by intro x;kernel_rfl) (cz Fi (.nil _)) Tryz.func114
def EW:List (Nat×Ann):=[(3,⟨[(0,.val .bool),(1,.val .str),(2,.val .str),(6,.ref 6 0),(8,.ref 8 0),(14,.val tI),(15,.val tI)],[(6,[.val tI,.val tI]),(8,mj)],[],aY _⟩),
 (200003,⟨[(0,.val .bool),(2,.val .str),(6,.ref 6 0),(8,.ref 8 0)],[(6,[.val tI,.val tI]),(8,mj)],[],fun _=>0⟩)]
def zJ:ax:=⟨[.val .bool,.val .str,.val .str],[.val cD,.val tI],fun x=>tV x.1 x.2.1 x.2.2.1⟩
noncomputable def HT:Cx:=⟨tpr,[(98,EO),(110,uZ),(111,vD),(112,vE),(113,uY),(114,zI)],[]⟩
theorem Ii:FB 65 zJ:=fbk HT EW none (by intro x;kernel_rfl) (cz MU (cz Cm (cz D5 (cz D6 (cz Cl (cz Ih (.nil _))))))) Tryz.func65
def zZ:List (Nat×Ann):=[(300003,⟨[(40,.val .bool)],[],[],fun _=>0⟩)]
def uU:ax:=⟨[.val .str],[.val cD,.val tI],fun x=>fA x.1⟩
noncomputable def B5:Cx:=⟨tpr,[(14,oL),(61,eg),(63,l6),(64,vz),(65,zJ)],[]⟩
theorem Bz:pS B5 zZ none Tryz.f32 uU:=by intro x;kernel_rfl
theorem CG:bO tpr 32 uU:=kN Bz (cz ox (.cons jx mV (cz rC (cz D1 (cz Ii (.nil _)))))) nE Tryz.func32
def Bp:ax:=⟨[.val .str],[.val .str],fun x=>oA x.1⟩
noncomputable def J5:Cx:=⟨tpr,[],[]⟩
theorem Ic:pS J5 [] none Tryz.f33 Bp:=by intro x;kernel_rfl
theorem Kk:bO tpr 33 Bp:=kN Ic (.nil _) nE Tryz.func33
def vm:ax:=⟨[.val .str],[.val .bool],fun x=>fI x.1⟩
noncomputable def J4:Cx:=⟨tpr,[(66,nk)],[]⟩
theorem Ba:FB 34 vm:=fbk J4 [] none (by intro x;kernel_rfl) (.cons xT xM (.nil _)) Tryz.func34
def kZ:ax:=⟨[.val tI,.val tI,.val tI],[.val .bool],fun x=>iw x.1 x.2.1 x.2.2.1⟩
noncomputable def HU:Cx:=⟨tpr,[],[]⟩
theorem ov:FB 51 kZ:=fbk HU [] none (by intro x;kernel_rfl) (.nil _) Tryz.func51
def C5:ax:=⟨[.val tI],[.val .bool],fun x=>xO x.1⟩
noncomputable def K3:Cx:=⟨tpr,[(51,kZ)],[]⟩
theorem Ll:FB 35 C5:=fbk K3 [] none (by intro x;kernel_rfl) (cz ov (.nil _)) Tryz.func35
def qH:ax:=⟨[.val tI],[.val .bool],fun x=>pT x.1⟩
noncomputable def E8:Cx:=⟨tpr,[(51,kZ)],[]⟩
theorem wF:FB 85 qH:=fbk E8 [] none (by intro x;kernel_rfl) (cz ov (.nil _)) Tryz.func85
def vA:ax:=⟨[.val tI],[.val (.slice tI)],fun x=>sO x.1⟩
noncomputable def DV:Cx:=⟨tpr,[],[]⟩
theorem D2:FB 141 vA:=fbk DV [] none (by intro x;kernel_rfl) (.nil _) Tryz.func141
def yQ:List (Nat×Ann):=[(2,⟨[(0,.val (.slice tI)),(1,.val tI),(7,.val tI),(8,.val tI)],[],[],aY _⟩),
 (200002,⟨[],[],[],fun _=>0⟩)]
def sM:ax:=⟨[.val (.slice tI),.val tI],[.val tI],fun x=>qF x.1 x.2.1⟩
noncomputable def By:Cx:=⟨tpr,[],[]⟩
theorem BE:FB 174 sM:=fbk By yQ none (by intro x;kernel_rfl) (.nil _) Tryz.func174
def ki:ax:=⟨[.val (.slice tI),.val tI],[.val .bool],fun x=>gh x.1 x.2.1⟩
noncomputable def yj:Cx:=⟨tpr,[(174,sM)],[]⟩
theorem pz:FB 128 ki:=fbk yj [] none (by intro x;kernel_rfl) (cz BE (.nil _)) Tryz.func128
def DS:List (Nat×Ann):=[(3,⟨[(0,.val .str),(3,.val tI),(7,.val tI),(8,.val tI)],[],[],aY _⟩),
 (200003,⟨[(3,.val tI)],[],[],fun _=>0⟩)]
def x5:ax:=⟨[.val .str],[.val .bool],fun x=>wu x.1⟩
noncomputable def F9:Cx:=⟨tpr,[],[]⟩
theorem Gq:FB 142 x5:=fbk F9 DS none (by intro x;kernel_rfl) (.nil _) Tryz.func142
def nS:ax:=⟨[.val tI,.val .str],[.val .bool],fun x=>mT x.1 x.2.1⟩
noncomputable def B6:Cx:=⟨tpr,[(61,eg),(89,qG),(128,ki),(140,x6),(141,vA),(142,x5)],[]⟩
theorem uC:FB 90 nS:=fbk B6 [] none (by intro x;kernel_rfl) (.cons jx mV (.cons wN wH (cz pz (.cons GM Gx (cz D2 (cz Gq (.nil _))))))) Tryz.func90
def uT:ax:=⟨[.val tI,.val .str],[.val .bool,.val tI],fun x=>ri x.1 x.2.1⟩
noncomputable def B4:Cx:=⟨tpr,[(85,qH),(90,nS)],[]⟩
theorem Ch:FB 122 uT:=fbk B4 [] none (by intro x;kernel_rfl) (cz wF (cz uC (.nil _))) Tryz.func122
def vC:ax:=⟨[.val .str],[.val .bool],fun x=>oD x.1⟩
noncomputable def DX:Cx:=⟨tpr,[(122,uT)],[]⟩
theorem D4:FB 67 vC:=fbk DX [] none (by intro x;kernel_rfl) (cz Ch (.nil _)) Tryz.func67
def pN:ax:=⟨[.val cD],[.val tI],fun x=>fZ x.1⟩
noncomputable def yg:Cx:=⟨tpr,[(51,kZ)],[]⟩
theorem yo:FB 96 pN:=fbk yg [] none (by intro x;kernel_rfl) (cz ov (.nil _)) Tryz.func96
def EX:List (Nat×Ann):=[(3,⟨[(3,.val tI),(4,.val tI),(5,.val tI)],[],[],aY _⟩),
 (200003,⟨[(3,.val tI)],[],[],fun _=>0⟩)]
def zK:ax:=⟨[.val tI],[.val tI],fun x=>yx x.1⟩
noncomputable def HW:Cx:=⟨tpr,[],[]⟩
theorem Ij:FB 171 zK:=fbk HW EX none (by intro x;kernel_rfl) (.nil _) Tryz.func171
def x7:ax:=⟨[.val cD,.val tI,.val tI],[.val .bool],fun x=>rL x.1 x.2.1 x.2.2.1⟩
noncomputable def Ga:Cx:=⟨tpr,[(171,zK)],[]⟩
theorem Gr:FB 123 x7:=fbk Ga [] none (by intro x;kernel_rfl) (cz Ij (.nil _)) Tryz.func123
def kg:ax:=⟨[.val cD,.val .bool],[.val tI],fun x=>cF x.1 x.2.1⟩
noncomputable def yh:Cx:=⟨tpr,[(96,pN),(123,x7)],[]⟩
theorem pq:FB 68 kg:=fbk yh [] none (by intro x;kernel_rfl) (cz yo (cz Gr (.nil _))) Tryz.func68
end Go.Proofs.SeatU
end
