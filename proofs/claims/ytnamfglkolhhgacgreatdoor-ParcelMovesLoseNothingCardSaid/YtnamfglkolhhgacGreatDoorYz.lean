/-
  Each function that the law reaches is as its plain model says, a further part. No condition.
-/
import Derived.Test.YtnamfglkolhhgacGreatDoorYy
set_option linter.all false
set_option maxRecDepth 100000
noncomputable section
namespace Go.Proofs.SeatU
open Go.Dn Go.Md Go.Proofs
def CI:List CK:=[.val .bool,.val (.slice (.int .u32))]
def Gt:List CK:=[.val .str,.val .str,.val tI,.own 48 bp]
def K0:List CK:=[.val .str,.val .str,.val tI,.rowR 101648]
def vf:List CK:=[.val .str,.val .str,.val tI,.val (.slice bp)]
def OB:List CK:=[.val .str,.val .str,.val tI,.val tI,.val (.slice aS)]
def Ct:List (Nat×Ann):=[(5,⟨[(1,.val tI),(2,.ref 2 0),(6,.val (.int .u64)),(14,.val (.slice (.int .u32))),(15,.val tI),(16,.val tI)],[(2,CI)],[],bC _⟩),
 (200005,⟨[(1,.val tI),(2,.ref 2 0),(6,.val (.int .u64))],[(2,CI)],[],fun _=>0⟩)]
def rV:aA:=⟨[.val aC,.val tI],[.val tI,.val .bool],fun x=>ry x.1 x.2.1⟩
noncomputable def Fo:Cx:=⟨tpr,[],[]⟩
theorem Er:bg Fo Ct none Tryz.f88 rV:=by intro x;kernel_rfl
theorem FI:ax tpr 88:=av Tryz.func88 rfl (by decide)
theorem FT:aD tpr 88 rV:=aG Er (.nil _) aN Tryz.func88
def qh:aA:=⟨[.val aC,.val tI],[.val dS,.val tI],fun x=>nU x.1 x.2.1⟩
noncomputable def H7:Cx:=⟨tpr,[(88,rV)],[]⟩
theorem GB:bg H7 [] none Tryz.f54 qh:=by intro x;kernel_rfl
theorem Ah:ax tpr 54:=av Tryz.func54 rfl (by decide)
theorem An:aD tpr 54 qh:=aG GB (.cons FT FI (.nil _)) aN Tryz.func54
def Cp:List (Nat×Ann):=[(2,⟨[(1,.val tI),(2,.ref 2 0),(4,.ref 4 0),(6,.ref 6 0)],[(2,CI),(4,[.val tI,.val tI]),(6,CI)],[],bC _⟩),
 (200002,⟨[(1,.val tI),(2,.ref 2 0),(4,.ref 4 0)],[(2,CI),(4,[.val tI,.val tI])],[],fun _=>0⟩)]
def rR:aA:=⟨[.val aC,.val tI],[.val dS,.val tI],fun x=>qW x.1 x.2.1⟩
noncomputable def Fh:Cx:=⟨tpr,[(25,oc),(54,qh),(94,th),(95,qA),(96,pG)],[]⟩
theorem Ek:bg Fh Cp none Tryz.f65 rR:=by intro x;kernel_rfl
theorem FC:ax tpr 65:=av Tryz.func65 rfl (by decide)
theorem FN:aD tpr 65 rR:=aG Ek (.cons uV uT (.cons An Ah (.cons Ht G5 (.cons EI EB (.cons Ds Db (.nil _)))))) aN Tryz.func65
def uA:aA:=⟨[.val aC],[.val dS,.val tI],fun x=>uX x.1⟩
noncomputable def Ie:Cx:=⟨tpr,[(65,rR)],[]⟩
theorem GI:bg Ie [] none Tryz.f33 uA:=by intro x;kernel_rfl
theorem Iw:ax tpr 33:=av Tryz.func33 rfl (by decide)
theorem IP:aD tpr 33 uA:=aG GI (.cons FN FC (.nil _)) aN Tryz.func33
def BY:List (Nat×Ann):=[(4,⟨[(0,.mapR 10250000),(4,.own 39 gu),(13,.rowR 12),(14,.val tI),(15,.val tI)],[],[.rowC 12 54 aF,.mapC 10250000 aF aC],bC _⟩),
 (200004,⟨[(4,.own 39 gu)],[],[.mapC 10250000 aF aC],fun _=>0⟩)]
def qx:aA:=⟨[.map aF aC],[.row 39 gu,.val tI],fun x=>qc x.1⟩
noncomputable def Eg:Cx:=⟨tpr,[(33,uA)],[(28,OW),(29,OX)]⟩
theorem CZ:bg Eg BY none Tryz.f14 qx:=by intro x;kernel_rfl
theorem Ey:ax tpr 14:=av Tryz.func14 rfl (by decide)
theorem EF:aD tpr 14 qx:=aG CZ (.Qw RE RC (.Qw RF RD (.cons IP Iw (.nil _)))) aN Tryz.func14
def Cr:List (Nat×Ann):=[(6,⟨[(1,.val .str),(2,.ref 2 0),(7,.mapR 18),(20,.val (.slice bp)),(21,.val tI),(22,.val tI)],[(2,vf)],[.mapC 18 aF aC],bC _⟩),
 (10,⟨[(1,.val .str),(2,.ref 2 0),(7,.mapR 18),(20,.val (.slice bp)),(21,.val tI),(22,.val tI),(33,.val (.slice aS)),(34,.val tI),(35,.val tI)],[(2,vf)],[.mapC 18 aF aC],bC _⟩),
 (200006,⟨[(7,.mapR 18)],[],[.mapC 18 aF aC],fun _=>0⟩),
 (200010,⟨[(1,.val .str),(2,.ref 2 0),(7,.mapR 18),(20,.val (.slice bp)),(21,.val tI),(22,.val tI)],[(2,vf)],[.mapC 18 aF aC],fun _=>0⟩)]
def rU:aA:=⟨[.val bG,.val .str],[.val (.slice gu),.val tI],fun x=>eP x.1 x.2.1⟩
noncomputable def Fl:Cx:=⟨tpr,[(11,eV),(12,qw),(13,jY),(14,qx)],[]⟩
theorem Eo:bg Fl Cr none Tryz.f4 rU:=by intro x;kernel_rfl
theorem FH:ax tpr 4:=av Tryz.func4 rfl (by decide)
theorem FR:aD tpr 4 rU:=aG Eo (.cons jA jx (.cons EE Ew (.cons x9 xU (.cons EF Ey (.nil _))))) aN Tryz.func4
def Fb:List (Nat×Ann):=[(5,⟨[(4,.val tI),(15,.val tI),(16,.val tI)],[],[],bC _⟩),
 (200005,⟨[(4,.val tI)],[],[],fun _=>0⟩)]
def uz:aA:=⟨[.val .str],[.val tI,.val .bool],fun x=>E2 x.1⟩
noncomputable def Ic:Cx:=⟨tpr,[(66,oE)],[]⟩
theorem GH:bg Ic Fb none Tryz.f34 uz:=by intro x;kernel_rfl
theorem Iv:ax tpr 34:=av Tryz.func34 rfl (by decide)
theorem IN:aD tpr 34 uz:=aG GH (.cons ze yW (.nil _)) aN Tryz.func34
def zV:List (Nat×Ann):=[(16,⟨[(0,.val tI),(1,.val .str),(49,.val tI)],[],[],bC _⟩),
 (200016,⟨[],[],[],fun _=>0⟩)]
def oo:aA:=⟨[.val tI,.val .str],[.val .str,.val tI],fun x=>xD x.1 x.2.1⟩
noncomputable def BZ:Cx:=⟨tpr,[(36,oF),(68,nu),(69,yo),(70,s8),(71,yq),(72,rS),(73,lJ)],[]⟩
theorem AT:bg BZ zV none Tryz.f37 oo:=by intro x;kernel_rfl
theorem B9:ax tpr 37:=av Tryz.func37 rfl (by decide)
theorem Cc:aD tpr 37 oo:=aG AT (.cons zf yX (.cons x8 xT (.cons FO FD (.cons Bi A3 (.cons FP FE (.cons x7 xS (.cons vF vm (.nil _)))))))) aN Tryz.func37
def qv:aA:=⟨[.val .str,.val tI],[.val .str,.val tI],fun x=>Aq x.1 x.2.1⟩
noncomputable def Ee:Cx:=⟨tpr,[(34,uz),(35,jO),(36,oF),(37,oo),(38,qz)],[]⟩
theorem CX:bg Ee [] none Tryz.f15 qv:=by intro x;kernel_rfl
theorem Ev:ax tpr 15:=av Tryz.func15 rfl (by decide)
theorem ED:aD tpr 15 qv:=aG CX (.cons IN Iv (.cons p8 pU (.cons zf yX (.cons Cc B9 (.cons EH EA (.nil _)))))) aN Tryz.func15
def yu:aA:=⟨[],[.val .bool],fun x=>lz ⟩
noncomputable def K4:Cx:=⟨tpr,[(15,qv)],[]⟩
theorem J9:bg K4 [] none Tryz.f5 yu:=by intro x;kernel_rfl
theorem Ls:ax tpr 5:=av Tryz.func5 rfl (by decide)
theorem LN:aD tpr 5 yu:=aG J9 (.cons ED Ev (.nil _)) aN Tryz.func5
def jb:aA:=⟨[.val (.slice bp)],[.row 48 bp],fun x=>gY x.1⟩
noncomputable def wm:Cx:=⟨tpr,[],[]⟩
theorem vk:bg wm [] none Tryz.f43 jb:=by intro x;kernel_rfl
theorem wz:ax tpr 43:=av Tryz.func43 rfl (by decide)
theorem wB:aD tpr 43 jb:=aG vk (.nil _) aN Tryz.func43
def iM:aA:=⟨[.val (.slice aS)],[.val (.slice aS)],fun x=>gC x.1⟩
noncomputable def vh:Cx:=⟨tpr,[],[]⟩
theorem tV:bg vh [] none Tryz.f44 iM:=by intro x;kernel_rfl
theorem vo:ax tpr 44:=av Tryz.func44 rfl (by decide)
theorem vH:aD tpr 44 iM:=aG tV (.nil _) aN Tryz.func44
def gU:aA:=⟨[.val (.slice aS)],[.row 51 aS],fun x=>fM x.1⟩
noncomputable def tw:Cx:=⟨tpr,[],[]⟩
theorem sR:bg tw [] none Tryz.f44 gU:=by intro x;kernel_rfl
theorem tC:ax tpr 44:=av Tryz.func44 rfl (by decide)
theorem tF:aD tpr 44 gU:=aG sR (.nil _) aN Tryz.func44
def xG:List (Nat×Ann):=[(3,⟨[(0,.rowR 23824),(7,.rowR 23824),(8,.val tI),(9,.val tI)],[],[.rowC 23824 48 bp],bC _⟩),
 (200003,⟨[(0,.rowR 23824)],[],[.rowC 23824 48 bp],fun _=>0⟩)]
def iF:aA:=⟨[.val (.slice bp)],[.row 48 bp],fun x=>dF x.1⟩
noncomputable def zq:Cx:=⟨tpr,[(43,jb),(44,iM)],[]⟩
theorem yK:bg zq xG none Tryz.f18 iF:=by intro x;kernel_rfl
theorem qH:ax tpr 18:=av Tryz.func18 rfl (by decide)
theorem qL:aD tpr 18 iF:=aG yK (.cons wB wz (.cons vH vo (.nil _))) aN Tryz.func18
def Eb:List (Nat×Ann):=[(100006,⟨[(2,.val .str),(3,.ref 3 0),(6,.ref 6 0),(9,.val tI)],[(3,vf),(6,Gt)],[],fun _=>0⟩)]
def td:aA:=⟨[.val bG,.val .str,.val .str],[.val bG,.val tI],fun x=>eG x.1 x.2.1 x.2.2.1⟩
noncomputable def Gy:Cx:=⟨tpr,[(11,eV),(16,dL),(17,lK),(18,iF),(19,gl)],[]⟩
theorem Fw:bg Gy Eb none Tryz.f6 td:=by intro x;kernel_rfl
theorem GY:ax tpr 6:=av Tryz.func6 rfl (by decide)
theorem Hr:aD tpr 6 td:=aG Fw (.cons jA jx (.cons gf fW (.cons vG vn (.cons qL qH (.cons mq mj (.nil _)))))) aN Tryz.func6
def wh:List (Nat×Ann):=[(1,⟨[(0,.rowR 10250000),(2,.val tI),(3,.val tI)],[],[.rowC 10250000 9 .str],bC _⟩),
 (200001,⟨[],[],[.rowC 10250000 9 .str],fun _=>0⟩)]
def jZ:aA:=⟨[.mrow 9 .str],[],fun x=>iV x.1⟩
noncomputable def xJ:Cx:=⟨tpr,[],[]⟩
theorem wZ:bg xJ wh none Tryz.f21 jZ:=by intro x;kernel_rfl
theorem xV:ax tpr 21:=av Tryz.func21 rfl (by decide)
theorem ya:aD tpr 21 jZ:=aG wZ (.nil _) aN Tryz.func21
def Fa:List (Nat×Ann):=[(8,⟨[(2,.ref 2 0),(9,.own 9 .str),(34,.val (.slice tI)),(35,.val tI),(36,.val tI)],[(2,vf)],[],bC _⟩),
 (200008,⟨[(9,.own 9 .str)],[],[],fun _=>0⟩)]
def uy:aA:=⟨[.val bG,.val .str],[.val (.slice .str),.val tI],fun x=>nZ x.1 x.2.1⟩
noncomputable def Ib:Cx:=⟨tpr,[(11,eV),(16,dL),(20,jX),(21,jZ)],[]⟩
theorem GG:bg Ib Fa none Tryz.f7 uy:=by intro x;kernel_rfl
theorem Iu:ax tpr 7:=av Tryz.func7 rfl (by decide)
theorem IM:aD tpr 7 uy:=aG GG (.cons jA jx (.cons gf fW (.cons rL rH (.cons ya xV (.nil _))))) aN Tryz.func7
def u9:List (Nat×Ann):=[(4,⟨[(0,.val (.slice gu)),(1,.val (.slice gu)),(12,.val tI),(13,.val tI)],[],[],bC _⟩),
 (200004,⟨[],[],[],fun _=>0⟩)]
def jH:aA:=⟨[.val (.slice gu),.val (.slice gu)],[.val .bool],fun x=>cF x.1 x.2.1⟩
noncomputable def wX:Cx:=⟨tpr,[],[]⟩
theorem wu:bg wX u9 none Tryz.f8 jH:=by intro x;kernel_rfl
theorem w6:ax tpr 8:=av Tryz.func8 rfl (by decide)
theorem w9:aD tpr 8 jH:=aG wu (.nil _) aN Tryz.func8
def tu:List (Nat×Ann):=[(4,⟨[(0,.val (.slice aS)),(1,.val (.slice aS)),(12,.val tI),(13,.val tI)],[],[],bC _⟩),
 (200004,⟨[],[],[],fun _=>0⟩)]
def iN:aA:=⟨[.val (.slice aS),.val (.slice aS)],[.val .bool],fun x=>gD x.1 x.2.1⟩
noncomputable def vi:Cx:=⟨tpr,[],[]⟩
theorem tW:bg vi tu none Tryz.f50 iN:=by intro x;kernel_rfl
theorem vq:ax tpr 50:=av Tryz.func50 rfl (by decide)
theorem vJ:aD tpr 50 iN:=aG tW (.nil _) aN Tryz.func50
def AN:List (Nat×Ann):=[(4,⟨[(1,.val (.slice bp)),(13,.val (.slice bp)),(14,.val tI),(15,.val tI)],[],[],bC _⟩),
 (200004,⟨[],[],[],fun _=>0⟩)]
def pF:aA:=⟨[.val (.slice bp),.val (.slice bp)],[.val .bool],fun x=>oC x.1 x.2.1⟩
noncomputable def CS:Cx:=⟨tpr,[(50,iN)],[]⟩
theorem B6:bg CS AN none Tryz.f22 pF:=by intro x;kernel_rfl
theorem Da:ax tpr 22:=av Tryz.func22 rfl (by decide)
theorem Dr:aD tpr 22 pF:=aG B6 (.cons vJ vq (.nil _)) aN Tryz.func22
def JW:List (Nat×Ann):=[(300001,⟨[(4,.val .bool)],[],[],fun _=>0⟩)]
def zN:aA:=⟨[.val bG,.val bG],[.val .bool],fun x=>ur x.1 x.2.1⟩
noncomputable def Mq:Cx:=⟨tpr,[(22,pF)],[]⟩
theorem La:bg Mq JW none Tryz.f9 zN:=by intro x;kernel_rfl
theorem My:ax tpr 9:=av Tryz.func9 rfl (by decide)
theorem MF:aD tpr 9 zN:=aG La (.cons Dr Da (.nil _)) aN Tryz.func9
def iX:List (Nat×Ann):=[(3,⟨[(0,.val (.slice aS)),(2,.val (.clo 52 .unit)),(4,.ref 4 0),(8,.val tI),(9,.val tI),(10,.val tI)],[(4,[.val .str,.val .str,.val .str,.val tI,.val tI])],[],bC _⟩),
 (200003,⟨[(0,.val (.slice aS)),(2,.val (.clo 52 .unit)),(4,.ref 4 0),(8,.val tI),(9,.val tI)],[(4,[.val .str,.val .str,.val .str,.val tI,.val tI])],[],fun _=>0⟩)]
def cB:aA:=⟨[.val (.slice aS),.val aS,.val (.clo 52 .unit)],[.val tI,.val .bool],fun x=>bU x.1 x.2.1 x.2.2.1⟩
noncomputable def jt:Cx:=⟨tpr,[(52,gq)],[]⟩
theorem jg:bg jt iX none Tryz.f51 cB:=by intro x;kernel_rfl
theorem jy:ax tpr 51:=av Tryz.func51 rfl (by decide)
theorem jB:aD tpr 51 cB:=aG jg (.cons oA oz (.nil _)) aN Tryz.func51
def Gl:List (Nat×Ann):=[(3,⟨[(0,.own 51 aS),(14,.val (.slice aS)),(15,.val tI),(16,.val tI)],[],[],bC _⟩),
 (200003,⟨[(0,.own 51 aS)],[],[],fun _=>0⟩)]
def wF:aA:=⟨[.val (.slice aS),.val (.slice aS)],[.val (.slice aS)],fun x=>xb x.1 x.2.1⟩
noncomputable def J5:Cx:=⟨tpr,[(26,mc),(27,nt),(44,gU),(51,cB),(53,mE),(54,qh)],[]⟩
theorem Il:bg J5 Gl none Tryz.f23 wF:=by intro x;kernel_rfl
theorem Ke:ax tpr 23:=av Tryz.func23 rfl (by decide)
theorem Kj:aD tpr 23 wF:=aG Il (.cons wM wK (.cons x6 xR (.cons tF tC (.cons jB jy (.cons uf ua (.cons An Ah (.nil _))))))) aN Tryz.func23
def Cq:List (Nat×Ann):=[(13,⟨[(1,.val .str),(2,.ref 2 0),(4,.ref 4 0),(7,.val tI),(9,.ref 9 0),(75,.val tI),(76,.val tI)],[(2,K0),(4,Gt),(9,OB)],[.rowC 101648 48 bp],bC _⟩),
 (100011,⟨[(1,.val .str),(2,.ref 2 0),(4,.ref 4 0),(7,.val tI),(9,.ref 9 0)],[(2,K0),(4,Gt),(9,OB)],[.rowC 101648 48 bp],fun _=>0⟩),
 (200013,⟨[(2,.ref 2 0),(4,.ref 4 0),(7,.val tI)],[(2,K0),(4,Gt)],[.rowC 101648 48 bp],fun _=>0⟩),
 (300006,⟨[(40,.val .bool)],[],[],fun _=>0⟩),
 (300010,⟨[(58,.val .bool)],[],[],fun _=>0⟩)]
def rT:aA:=⟨[.val bG,.val .str],[.val bG,.val tI],fun x=>fK x.1 x.2.1⟩
noncomputable def Fk:Cx:=⟨tpr,[(11,eV),(16,dL),(18,iF),(19,gl),(23,wF),(24,mL)],[]⟩
theorem En:bg Fk Cq none Tryz.f10 rT:=by intro x;kernel_rfl
theorem FF:ax tpr 10:=av Tryz.func10 rfl (by decide)
theorem FQ:aD tpr 10 rT:=aG En (.cons jA jx (.cons gf fW (.cons qL qH (.cons mq mj (.cons Kj Ke (.cons vI vp (.nil _))))))) aN Tryz.func10
def sG:List (Nat×Ann):=[(100006,⟨[(1,.val .str),(3,.ref 3 0),(7,.val (.slice gu))],[(3,vf)],[],fun _=>0⟩),
 (100012,⟨[(1,.val .str),(3,.ref 3 0),(7,.val (.slice gu)),(9,.ref 9 0),(15,.val .str)],[(3,vf),(9,vf)],[],fun _=>0⟩),
 (300003,⟨[(6,.val .bool)],[],[],fun _=>0⟩)]
def l7:aA:=⟨[.val bG,.val .str,.val .str],[.val .bool],fun x=>fJ x.1 x.2.1 x.2.2.1⟩
noncomputable def tv:Cx:=⟨tpr,[(4,rU),(5,yu),(6,td),(7,uy),(8,jH),(9,zN),(10,rT)],[]⟩
theorem sQ:bg tv sG none Tryz.f3 l7:=by intro x;kernel_rfl
theorem tD:aD tpr 3 l7:=aG sQ (.cons FR FH (.cons LN Ls (.cons Hr GY (.cons IM Iu (.cons w9 w6 (.cons MF My (.cons FQ FF (.nil _)))))))) aN Tryz.func3
end Go.Proofs.SeatU
end
