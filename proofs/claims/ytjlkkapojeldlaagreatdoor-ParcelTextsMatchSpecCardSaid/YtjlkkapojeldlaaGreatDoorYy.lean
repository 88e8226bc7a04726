/-
  Each function that the law reaches is as its plain model says, a further part. No condition.
-/
import Derived.Test.YtjlkkapojeldlaaGreatDoorYx
set_option maxRecDepth 100000
noncomputable section
namespace Go.Proofs.SeatU
open Go.Dn Go.Md Go.Proofs
def zU:List CK:=[.val .bool,.own 3 tI]
def vg:List CK:=[.val .str,.val .str,.val tI,.val (.slice az)]
def Hf:List (Nat×Ann):=[(3,⟨[(3,.val tI),(6,.val (.slice tI)),(7,.val tI),(8,.val tI)],[],[],aW _⟩),
 (200003,⟨[(3,.val tI)],[],[],fun _=>0⟩)]
def Cl:ak:=⟨[.val (.slice tI)],[.val tI],fun x=>wK x.1⟩
noncomputable def LK:Cx:=⟨tpr,[],[]⟩
theorem LW:FB 172 Cl:=fbk LK Hf none (by intro x;kernel_rfl) (.nil _) Tryz.func172
def nK:ak:=⟨[.val bh,.val bh],[.val tI],fun x=>eK x.1 x.2.1⟩
noncomputable def wL:Cx:=⟨tpr,[(127,gN),(172,Cl)],[]⟩
theorem wM:FB 124 nK:=fbk wL [] none (by intro x;kernel_rfl) (.cons nX nQ (cz LW (.nil _))) Tryz.func124
def wH:List (Nat×Ann):=[(4,⟨[(0,.val (.slice bh)),(9,.val (.slice bh)),(10,.val tI),(11,.val tI)],[],[],aW _⟩),
 (200004,⟨[],[],[],fun _=>0⟩)]
def pz:ak:=⟨[.val (.slice bh)],[.val tI],fun x=>fN x.1⟩
noncomputable def yf:Cx:=⟨tpr,[(34,vZ),(68,kO),(124,nK)],[]⟩
theorem yg:FB 69 pz:=fbk yf wH none (by intro x;kernel_rfl) (cz B9 (cz pZ (cz wM (.nil _)))) Tryz.func69
def rP:ak:=⟨[.val (.slice az),.val tI],[.val tI],fun x=>jU x.1 x.2.1⟩
noncomputable def zZ:Cx:=⟨tpr,[(67,wB),(68,kO),(69,pz)],[]⟩
theorem Ac:FB 36 rP:=fbk zZ [] none (by intro x;kernel_rfl) (cz Ff (cz pZ (cz yg (.nil _)))) Tryz.func36
def s6:ak:=⟨[.val az,.val .str],[.val tI],fun x=>pI x.1 x.2.1⟩
noncomputable def A7:Cx:=⟨tpr,[(127,gN)],[]⟩
theorem Bg:FB 126 s6:=fbk A7 [] none (by intro x;kernel_rfl) (.cons nX nQ (.nil _)) Tryz.func126
def jr:List (Nat×Ann):=[(3,⟨[(0,.val (.slice az)),(1,.val .str),(2,.val (.clo 126 .unit)),(8,.val tI),(9,.val tI),(10,.val tI)],[],[],aW _⟩),
 (200003,⟨[(0,.val (.slice az)),(1,.val .str),(2,.val (.clo 126 .unit)),(8,.val tI),(9,.val tI)],[],[],fun _=>0⟩)]
def eS:ak:=⟨[.val (.slice az),.val .str,.val (.clo 126 .unit)],[.val tI,.val .bool],fun x=>cA x.1 x.2.1 x.2.2.1⟩
noncomputable def kE:Cx:=⟨tpr,[(126,s6)],[]⟩
theorem kF:FB 125 eS:=fbk kE jr none (by intro x;kernel_rfl) (cz Bg (.nil _)) Tryz.func125
def oo:ak:=⟨[.val cH,.val .str],[.val tI,.val .bool],fun x=>jT x.1 x.2.1⟩
noncomputable def Da:Cx:=⟨tpr,[(125,eS)],[]⟩
theorem vn:FB 70 oo:=fbk Da [] none (by intro x;kernel_rfl) (cz kF (.nil _)) Tryz.func70
def CP:List (Nat×Ann):=[(3,⟨[(1,.val tI),(2,.ref 2 0),(6,.own 3 tI),(7,.val tI)],[(2,vg)],[],aW _⟩),
 (200003,⟨[(6,.own 3 tI)],[],[],fun _=>0⟩)]
def xW:ak:=⟨[.val cH,.val tI],[.val (.slice tI),.val .bool],fun x=>mL x.1 x.2.1⟩
noncomputable def Gi:Cx:=⟨tpr,[(70,oo),(128,kP)],[]⟩
theorem Gs:FB 71 xW:=fbk Gi CP none (by intro x;kernel_rfl) (cz vn (cz p0 (.nil _))) Tryz.func71
def zN:List (Nat×Ann):=[(2,⟨[(1,.ref 1 0),(14,.val (.slice az)),(15,.val tI),(16,.val tI)],[(1,vg)],[],aW _⟩),
 (9,⟨[(1,.ref 1 0),(37,.val tI),(38,.val tI)],[(1,vg)],[],aW _⟩),
 (16,⟨[(1,.ref 1 0),(52,.val tI),(53,.val tI)],[(1,vg)],[],aW _⟩),
 (200002,⟨[(1,.ref 1 0)],[(1,vg)],[],fun _=>0⟩),
 (200009,⟨[(1,.ref 1 0)],[(1,vg)],[],fun _=>0⟩),
 (200016,⟨[],[],[],fun _=>0⟩)]
def tG:ak:=⟨[.val cH],[.val tI],fun x=>mo x.1⟩
noncomputable def Cv:Cx:=⟨tpr,[(70,oo),(71,xW)],[]⟩
theorem CB:FB 37 tG:=fbk Cv zN none (by intro x;kernel_rfl) (cz vn (cz Gs (.nil _))) Tryz.func37
def ye:List (Nat×Ann):=[(8,⟨[(1,.ref 1 0),(28,.val tI),(29,.val tI)],[(1,vg)],[],aW _⟩),
 (200008,⟨[(1,.ref 1 0)],[(1,vg)],[],fun _=>0⟩)]
def rO:ak:=⟨[.val cH],[.val tI],fun x=>cg x.1⟩
noncomputable def zY:Cx:=⟨tpr,[(34,vZ),(35,D7),(36,rP),(37,tG)],[]⟩
theorem zf:rS zY ye none Tryz.f13 rO:=by intro x;kernel_rfl
theorem Ak:bQ tpr 13 rO:=mH zf (cz B9 (cz Nb (cz Ac (cz CB (.nil _))))) p8 Tryz.func13
def Ga:List (Nat×Ann):=[(4,⟨[(0,.val .str),(7,.val tI),(8,.val tI)],[],[],aW _⟩),
 (200004,⟨[],[],[],fun _=>0⟩)]
def AH:ak:=⟨[.val .str],[.val .bool],fun x=>eL x.1⟩
noncomputable def Jx:Cx:=⟨tpr,[],[]⟩
theorem JO:FB 74 AH:=fbk Jx Ga none (by intro x;kernel_rfl) (.nil _) Tryz.func74
def Ji:List (Nat×Ann):=[(4,⟨[(0,.val .str),(23,.val tI),(24,.val tI)],[],[],aW _⟩),
 (200004,⟨[],[],[],fun _=>0⟩)]
def Ee:ak:=⟨[.val .str],[.val .bool],fun x=>D2 x.1⟩
noncomputable def MX:Cx:=⟨tpr,[],[]⟩
theorem Ni:FB 76 Ee:=fbk MX Ji none (by intro x;kernel_rfl) (.nil _) Tryz.func76
def xX:ak:=⟨[.val .str],[.val .bool],fun x=>lP x.1⟩
noncomputable def MV:Cx:=⟨tpr,[(76,Ee)],[]⟩
theorem Dp:FB 43 xX:=fbk MV [] none (by intro x;kernel_rfl) (cz Ni (.nil _)) Tryz.func43
def ou:ak:=⟨[.val tI,.val tI,.val tI],[.val .bool],fun x=>lR x.1 x.2.1 x.2.2.1⟩
noncomputable def MZ:Cx:=⟨tpr,[],[]⟩
theorem so:FB 133 ou:=fbk MZ [] none (by intro x;kernel_rfl) (.nil _) Tryz.func133
def FZ:ak:=⟨[.val tI],[.val .bool],fun x=>GS x.1⟩
noncomputable def OD:Cx:=⟨tpr,[(133,ou)],[]⟩
theorem ON:FB 77 FZ:=fbk OD [] none (by intro x;kernel_rfl) (cz so (.nil _)) Tryz.func77
def FV:ak:=⟨[.val tI],[.val .bool],fun x=>BS x.1⟩
noncomputable def Oz:Cx:=⟨tpr,[(77,FZ)],[]⟩
theorem OJ:FB 44 FV:=fbk Oz [] none (by intro x;kernel_rfl) (cz ON (.nil _)) Tryz.func44
def Ed:ak:=⟨[.val tI],[.val .bool],fun x=>D1 x.1⟩
noncomputable def MW:Cx:=⟨tpr,[(133,ou)],[]⟩
theorem Nh:FB 134 Ed:=fbk MW [] none (by intro x;kernel_rfl) (cz so (.nil _)) Tryz.func134
def Jj:List (Nat×Ann):=[(3,⟨[(0,.val .str),(3,.val tI),(7,.val tI),(8,.val tI)],[],[],aW _⟩),
 (200003,⟨[(3,.val tI)],[],[],fun _=>0⟩)]
def Ef:ak:=⟨[.val .str],[.val .bool],fun x=>lQ x.1⟩
noncomputable def MY:Cx:=⟨tpr,[],[]⟩
theorem Nj:FB 177 Ef:=fbk MY Jj none (by intro x;kernel_rfl) (.nil _) Tryz.func177
def AI:ak:=⟨[.val tI,.val .str],[.val .bool],fun x=>zw x.1 x.2.1⟩
noncomputable def Jy:Cx:=⟨tpr,[(74,AH),(133,ou),(177,Ef),(178,yL),(179,yM),(180,Eg),(181,AJ)],[]⟩
theorem JP:FB 135 AI:=fbk Jy [] none (by intro x;kernel_rfl) (cz JO (cz so (cz Nj (.cons Ir H8 (.cons Is H9 (.cons NR Ns (.cons Kf JX (.nil _)))))))) Tryz.func135
def AG:ak:=⟨[.val tI,.val .str],[.val .bool,.val tI],fun x=>zq x.1 x.2.1⟩
noncomputable def Jw:Cx:=⟨tpr,[(134,Ed),(135,AI)],[]⟩
theorem JN:FB 78 AG:=fbk Jw [] none (by intro x;kernel_rfl) (cz Nh (cz JP (.nil _))) Tryz.func78
def AF:ak:=⟨[.val .str],[.val .bool],fun x=>uR x.1⟩
noncomputable def Jv:Cx:=⟨tpr,[(78,AG)],[]⟩
theorem JM:FB 45 AF:=fbk Jv [] none (by intro x;kernel_rfl) (cz JN (.nil _)) Tryz.func45
def ot:ak:=⟨[.val bM],[.val tI],fun x=>gT x.1⟩
noncomputable def Dd:Cx:=⟨tpr,[(133,ou)],[]⟩
theorem vo:FB 79 ot:=fbk Dd [] none (by intro x;kernel_rfl) (cz so (.nil _)) Tryz.func79
def Qa:List (Nat×Ann):=[(2,⟨[(0,.val tI),(2,.ref 2 0),(3,.ref 3 0)],[(2,zU),(3,zU)],[],aW _⟩),
 (200002,⟨[(2,.ref 2 0),(3,.ref 3 0)],[(2,zU),(3,zU)],[],fun _=>0⟩)]
def GW:ak:=⟨[.val tI],[.val aZ],fun x=>ES x.1⟩
noncomputable def Tg:Cx:=⟨tpr,[],[]⟩
theorem Ng:FB 186 GW:=fbk Tg Qa none (by intro x;kernel_rfl) (.nil _) Tryz.func186
def Hh:List (Nat×Ann):=[(1,⟨[(1,.ref 1 0),(2,.ref 2 0)],[(1,[.val .bool,.val (.slice tI)]),(2,zU)],[],aW _⟩),
 (200001,⟨[(1,.ref 1 0),(2,.ref 2 0)],[(1,[.val .bool,.val (.slice tI)]),(2,zU)],[],fun _=>0⟩)]
def wh:ak:=⟨[.val aZ],[.val aZ],fun x=>ke x.1⟩
noncomputable def LQ:Cx:=⟨tpr,[],[]⟩
theorem Cc:FB 204 wh:=fbk LQ Hh none (by intro x;kernel_rfl) (.nil _) Tryz.func204
end Go.Proofs.SeatU
end
