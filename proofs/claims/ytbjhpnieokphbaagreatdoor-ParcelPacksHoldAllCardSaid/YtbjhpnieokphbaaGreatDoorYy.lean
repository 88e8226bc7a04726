/-
  Each function that the law reaches is as its plain model says, a further part. No condition.
-/
import Derived.Test.YtbjhpnieokphbaaGreatDoorYw
set_option linter.all false
set_option maxRecDepth 100000
noncomputable section
namespace Go.Proofs.SeatU
open Go.Dn Go.Md Go.Proofs
def Gl:List CK:=[.val .bool,.own 109 (.int .u32)]
def Cz:List CK:=[.val .bool,.val (.slice (.int .u32))]
def uX:List CK:=[.val .str,.val .str,.val tI,.val (.slice b5)]
def zF:List (Nat×Ann):=[(16,⟨[(0,.val tI),(1,.val .str),(49,.val tI)],[],[],bz _⟩),
 (200016,⟨[],[],[],fun _=>0⟩)]
def nO:aC:=⟨[.val tI,.val .str],[.val .str,.val tI],fun x=>lY x.1 x.2.1⟩
noncomputable def BY:Cx:=⟨tpr,[(33,oa),(59,mF),(60,x4),(61,sV),(62,x5),(63,rF),(64,ko)],[]⟩
theorem AG:aV BY zF none Tryz.f34 nO:=by intro x;kernel_rfl
theorem B7:av tpr 34:=aq Tryz.func34 rfl (by decide)
theorem Ca:aF tpr 34 nO:=aI AG (.cons yR yK (.cons xK xz (.cons FH FA (.cons A7 AS (.cons FI FB (.cons xJ xw (.cons vk u7 (.nil _)))))))) aK Tryz.func34
def iw:aC:=⟨[.val .str,.val tI],[.val .str,.val tI],fun x=>eX x.1 x.2.1⟩
noncomputable def Ea:Cx:=⟨tpr,[(29,pP),(32,iO),(33,oa),(34,nO),(35,qc)],[]⟩
theorem CO:aV Ea [] none Tryz.f14 iw:=by intro x;kernel_rfl
theorem pW:av tpr 14:=aq Tryz.func14 rfl (by decide)
theorem pX:aF tpr 14 iw:=aI CO (.cons Ah Ab (.cons pz pn (.cons yR yK (.cons Ca B7 (.cons EF Ew (.nil _)))))) aK Tryz.func14
def lM:aC:=⟨[.val .str,.val tI,.val tI],[.val tI],fun x=>jY x.1 x.2.1 x.2.2.1⟩
noncomputable def zS:Cx:=⟨tpr,[(14,iw),(29,pP)],[]⟩
theorem zb:aV zS [] none Tryz.f12 lM:=by intro x;kernel_rfl
theorem z8:av tpr 12:=aq Tryz.func12 rfl (by decide)
theorem Af:aF tpr 12 lM:=aI zb (.cons pX pW (.cons Ah Ab (.nil _))) aK Tryz.func12
def HX:List (Nat×Ann):=[(6,⟨[(1,.val (.slice (.int .u32))),(5,.own 109 (.int .u32)),(6,.val (.int .u64)),(20,.val (.slice (.int .u32))),(21,.val tI),(22,.val tI)],[],[],bz _⟩),
 (100002,⟨[(0,.val (.slice (.int .u32))),(1,.val (.slice (.int .u32)))],[],[],fun _=>0⟩),
 (100010,⟨[(1,.val (.slice (.int .u32))),(5,.own 109 (.int .u32)),(6,.val (.int .u64)),(20,.val (.slice (.int .u32))),(21,.val tI),(22,.val tI)],[],[],fun _=>0⟩),
 (200006,⟨[(5,.own 109 (.int .u32)),(6,.val (.int .u64))],[],[],fun _=>0⟩)]
def x8:aC:=⟨[.val (.slice (.int .u32)),.val (.slice (.int .u32))],[.row 109 (.int .u32)],fun x=>vA x.1 x.2.1⟩
noncomputable def Lw:Cx:=⟨tpr,[],[]⟩
theorem KC:aV Lw HX none Tryz.f80 x8:=by intro x;kernel_rfl
theorem LW:av tpr 80:=aq Tryz.func80 rfl (by decide)
theorem Mf:aF tpr 80 x8:=aI KC (.nil _) aK Tryz.func80
def E9:List (Nat×Ann):=[(6,⟨[(1,.val (.slice (.int .u32))),(5,.own 109 (.int .u32)),(6,.val (.int .u64)),(20,.val (.slice (.int .u32))),(21,.val tI),(22,.val tI)],[],[],bz _⟩),
 (100002,⟨[(0,.val (.slice (.int .u32))),(1,.val (.slice (.int .u32)))],[],[],fun _=>0⟩),
 (100010,⟨[(1,.val (.slice (.int .u32))),(5,.own 109 (.int .u32)),(6,.val (.int .u64)),(20,.val (.slice (.int .u32))),(21,.val tI),(22,.val tI)],[],[],fun _=>0⟩),
 (200006,⟨[(5,.own 109 (.int .u32)),(6,.val (.int .u64))],[],[],fun _=>0⟩)]
def uj:aC:=⟨[.val (.slice (.int .u32)),.val (.slice (.int .u32))],[.val (.slice (.int .u32))],fun x=>zB x.1 x.2.1⟩
noncomputable def Ik:Cx:=⟨tpr,[],[]⟩
theorem GD:aV Ik E9 none Tryz.f80 uj:=by intro x;kernel_rfl
theorem IF:av tpr 80:=aq Tryz.func80 rfl (by decide)
theorem I4:aF tpr 80 uj:=aI GD (.nil _) aK Tryz.func80
def Cp:List (Nat×Ann):=[(4,⟨[(0,.val (.slice (.int .u32))),(1,.val (.slice (.int .u32))),(5,.val tI)],[],[],bz _⟩),
 (200004,⟨[],[],[],fun _=>0⟩)]
def mM:aC:=⟨[.val (.slice (.int .u32)),.val (.slice (.int .u32))],[.val tI],fun x=>nv x.1 x.2.1⟩
noncomputable def Fk:Cx:=⟨tpr,[],[]⟩
theorem Eo:aV Fk Cp none Tryz.f81 mM:=by intro x;kernel_rfl
theorem xD:av tpr 81:=aq Tryz.func81 rfl (by decide)
theorem xO:aF tpr 81 mM:=aI Eo (.nil _) aK Tryz.func81
def Gf:List (Nat×Ann):=[(4,⟨[(1,.val (.slice (.int .u32))),(5,.own 109 (.int .u32)),(6,.val (.int .u64)),(13,.val (.slice (.int .u32))),(14,.val tI),(15,.val tI)],[],[],bz _⟩),
 (100008,⟨[(1,.val (.slice (.int .u32))),(5,.own 109 (.int .u32)),(9,.val (.int .u64)),(13,.val (.slice (.int .u32))),(14,.val tI),(15,.val tI)],[],[],fun _=>0⟩),
 (200004,⟨[(5,.own 109 (.int .u32))],[],[],fun _=>0⟩)]
def q7:aC:=⟨[.val (.slice (.int .u32)),.val (.slice (.int .u32))],[.val (.slice (.int .u32))],fun x=>pS x.1 x.2.1⟩
noncomputable def Ky:Cx:=⟨tpr,[(116,jb)],[]⟩
theorem Ir:aV Ky Gf none Tryz.f82 q7:=by intro x;kernel_rfl
theorem BM:av tpr 82:=aq Tryz.func82 rfl (by decide)
theorem BQ:aF tpr 82 q7:=aI Ir (.cons rz ry (.nil _)) aK Tryz.func82
def D8:List (Nat×Ann):=[(4,⟨[(2,.ref 2 0),(3,.ref 3 0),(4,.ref 4 0),(5,.ref 5 0),(6,.rowR 12),(7,.val (.slice (.int .u32))),(8,.val tI)],[(2,Cz),(3,Cz),(4,Gl),(5,Gl)],[.rowC 12 109 (.int .u32)],bz _⟩),
 (200004,⟨[(4,.ref 4 0),(5,.ref 5 0),(6,.rowR 12),(7,.val (.slice (.int .u32)))],[(4,Gl),(5,Gl)],[.rowC 12 109 (.int .u32)],fun _=>0⟩)]
def s5:aC:=⟨[.val aH,.val aH],[.val aH,.val aH],fun x=>oQ x.1 x.2.1⟩
noncomputable def Gr:Cx:=⟨tpr,[(75,gW),(80,x8),(81,mM),(82,q7),(116,jb)],[]⟩
theorem Fs:aV Gr D8 none Tryz.f71 s5:=by intro x;kernel_rfl
theorem GU:av tpr 71:=aq Tryz.func71 rfl (by decide)
theorem Hp:aF tpr 71 s5:=aI Fs (.cons nh mZ (.cons Mf LW (.cons xO xD (.cons BQ BM (.cons rz ry (.nil _)))))) aK Tryz.func71
def qg:aC:=⟨[.val aH],[.val tI],fun x=>iP x.1⟩
noncomputable def Eg:Cx:=⟨tpr,[],[]⟩
theorem CU:aV Eg [] none Tryz.f72 qg:=by intro x;kernel_rfl
theorem Ez:av tpr 72:=aq Tryz.func72 rfl (by decide)
theorem EH:aF tpr 72 qg:=aI CU (.nil _) aK Tryz.func72
def oL:aC:=⟨[.val aH],[.val aH],fun x=>om x.1⟩
noncomputable def CI:Cx:=⟨tpr,[(75,gW)],[]⟩
theorem B5:aV CI [] none Tryz.f73 oL:=by intro x;kernel_rfl
theorem C4:av tpr 73:=aq Tryz.func73 rfl (by decide)
theorem Dk:aF tpr 73 oL:=aI B5 (.cons nh mZ (.nil _)) aK Tryz.func73
def tY:aC:=⟨[.val aH,.val tI],[.val bS,.val tI],fun x=>qm x.1 x.2.1⟩
noncomputable def H8:Cx:=⟨tpr,[(31,mL)],[]⟩
theorem Gs:aV H8 [] none Tryz.f74 tY:=by intro x;kernel_rfl
theorem Ix:av tpr 74:=aq Tryz.func74 rfl (by decide)
theorem IV:aF tpr 74 tY:=aI Gs (.cons xN xC (.nil _)) aK Tryz.func74
def Cl:List (Nat×Ann):=[(2,⟨[(1,.val tI),(2,.ref 2 0),(4,.ref 4 0),(6,.ref 6 0)],[(2,Cz),(4,[.val tI,.val tI]),(6,Cz)],[],bz _⟩),
 (200002,⟨[(1,.val tI),(2,.ref 2 0),(4,.ref 4 0)],[(2,Cz),(4,[.val tI,.val tI])],[],fun _=>0⟩)]
def mD:aC:=⟨[.val aH,.val tI],[.val bS,.val tI],fun x=>mV x.1 x.2.1⟩
noncomputable def Fc:Cx:=⟨tpr,[(37,kQ),(71,s5),(72,qg),(73,oL),(74,tY)],[]⟩
theorem Eh:aV Fc Cl none Tryz.f36 mD:=by intro x;kernel_rfl
theorem xq:av tpr 36:=aq Tryz.func36 rfl (by decide)
theorem xH:aF tpr 36 mD:=aI Eh (.cons qw qu (.cons Hp GU (.cons EH Ez (.cons Dk C4 (.cons IV Ix (.nil _)))))) aK Tryz.func36
def rH:aC:=⟨[.val tI],[.val bS],fun x=>qP x.1⟩
noncomputable def Fi:Cx:=⟨tpr,[(36,mD),(37,kQ)],[]⟩
theorem Em:aV Fi [] none Tryz.f15 rH:=by intro x;kernel_rfl
theorem FD:av tpr 15:=aq Tryz.func15 rfl (by decide)
theorem FK:aF tpr 15 rH:=aI Em (.cons xH xq (.cons qw qu (.nil _))) aK Tryz.func15
def E5:List (Nat×Ann):=[(4,⟨[(0,.val (.slice aR)),(1,.val (.slice aR)),(2,.val .str),(3,.val tI),(34,.rowR 34),(35,.val tI),(36,.val tI)],[],[.rowC 34 22 (.slice aR)],bz _⟩),
 (20,⟨[(2,.val .str),(3,.val tI),(14,.rowR 111952),(17,.own 54 b5),(65,.val (.slice aR)),(66,.val tI),(67,.val tI)],[],[.rowC 111952 3 tI],bz _⟩),
 (23,⟨[(2,.val .str),(3,.val tI),(14,.rowR 111952),(17,.own 54 b5),(18,.val tI),(19,.ref 19 0),(20,.val tI),(65,.val (.slice aR)),(66,.val tI),(67,.val tI)],[(19,[.val .str,.val .str,.val tI,.val tI])],[.rowC 111952 3 tI],bz _⟩),
 (200004,⟨[(0,.val (.slice aR)),(1,.val (.slice aR)),(2,.val .str),(3,.val tI)],[],[],fun _=>0⟩),
 (200020,⟨[(17,.own 54 b5)],[],[],fun _=>0⟩),
 (200023,⟨[(2,.val .str),(3,.val tI),(14,.rowR 111952),(17,.own 54 b5),(65,.val (.slice aR)),(66,.val tI),(67,.val tI)],[],[.rowC 111952 3 tI],fun _=>0⟩)]
def uc:aC:=⟨[.val (.slice aR),.val (.slice aR),.val .str,.val tI],[.row 54 b5,.val tI],fun x=>qy x.1 x.2.1 x.2.2.1 x.2.2.2.1⟩
noncomputable def Ic:Cx:=⟨tpr,[(10,mH),(11,sY),(12,lM),(13,gR),(14,iw),(15,rH)],[]⟩
theorem Gx:aV Ic E5 none Tryz.f4 uc:=by intro x;kernel_rfl
theorem IA:av tpr 4:=aq Tryz.func4 rfl (by decide)
theorem IY:aF tpr 4 uc:=aI Gx (.cons A8 AT (.cons Hl GR (.cons Af z8 (.cons rZ rT (.cons pX pW (.cons FK FD (.nil _))))))) aK Tryz.func4
def x7:aC:=⟨[],[.val .bool],fun x=>yO ⟩
noncomputable def Lv:Cx:=⟨tpr,[(14,iw)],[]⟩
theorem KB:aV Lv [] none Tryz.f5 x7:=by intro x;kernel_rfl
theorem LU:av tpr 5:=aq Tryz.func5 rfl (by decide)
theorem Mc:aF tpr 5 x7:=aI KB (.cons pX pW (.nil _)) aK Tryz.func5
def x6:aC:=⟨[.val tI],[.val .bool],fun x=>yM x.1⟩
noncomputable def Lu:Cx:=⟨tpr,[(32,iO)],[]⟩
theorem KA:aV Lu [] none Tryz.f21 x6:=by intro x;kernel_rfl
theorem LS:av tpr 21:=aq Tryz.func21 rfl (by decide)
theorem Mb:aF tpr 21 x6:=aI KA (.cons pz pn (.nil _)) aK Tryz.func21
def oJ:aC:=⟨[.val tI,.val .str],[.val .bool,.val tI],fun x=>nT x.1 x.2.1⟩
noncomputable def CD:Cx:=⟨tpr,[(59,mF),(64,ko)],[]⟩
theorem B1:aV CD [] none Tryz.f94 oJ:=by intro x;kernel_rfl
theorem C2:av tpr 94:=aq Tryz.func94 rfl (by decide)
theorem Di:aF tpr 94 oJ:=aI B1 (.cons xK xz (.cons vk u7 (.nil _))) aK Tryz.func94
def qa:aC:=⟨[.val .str],[.val .bool],fun x=>lI x.1⟩
noncomputable def Ed:Cx:=⟨tpr,[(94,oJ)],[]⟩
theorem CR:aV Ed [] none Tryz.f48 qa:=by intro x;kernel_rfl
theorem Eu:av tpr 48:=aq Tryz.func48 rfl (by decide)
theorem ED:aF tpr 48 qa:=aI CR (.cons Di C2 (.nil _)) aK Tryz.func48
def Gc:List (Nat×Ann):=[(3,⟨[(3,.val tI),(6,.val (.slice tI)),(7,.val tI),(8,.val tI)],[],[],bz _⟩),
 (200003,⟨[(3,.val tI)],[],[],fun _=>0⟩)]
def vX:aC:=⟨[.val (.slice tI)],[.val tI],fun x=>wA x.1⟩
noncomputable def Kt:Cx:=⟨tpr,[],[]⟩
theorem Il:aV Kt Gc none Tryz.f44 vX:=by intro x;kernel_rfl
theorem KD:av tpr 44:=aq Tryz.func44 rfl (by decide)
theorem KH:aF tpr 44 vX:=aI Il (.nil _) aK Tryz.func44
def iJ:aC:=⟨[.val gX,.val gX],[.val tI],fun x=>ew x.1 x.2.1⟩
noncomputable def wC:Cx:=⟨tpr,[(44,vX),(45,kr)],[]⟩
theorem vK:aV wC [] none Tryz.f95 iJ:=by intro x;kernel_rfl
theorem wF:av tpr 95:=aq Tryz.func95 rfl (by decide)
theorem wH:aF tpr 95 iJ:=aI vK (.cons KH KD (.cons vl u9 (.nil _))) aK Tryz.func95
def wu:List (Nat×Ann):=[(4,⟨[(0,.val (.slice gX)),(9,.val (.slice gX)),(10,.val tI),(11,.val tI)],[],[],bz _⟩),
 (200004,⟨[],[],[],fun _=>0⟩)]
def jE:aC:=⟨[.val (.slice gX)],[.val tI],fun x=>fD x.1⟩
noncomputable def yq:Cx:=⟨tpr,[(20,nr),(26,eA),(95,iJ)],[]⟩
theorem xg:aV yq wu none Tryz.f49 jE:=by intro x;kernel_rfl
theorem yy:av tpr 49:=aq Tryz.func49 rfl (by decide)
theorem yA:aF tpr 49 jE:=aI xg (.cons vS vO (.cons kK kH (.cons wH wF (.nil _)))) aK Tryz.func49
def lN:aC:=⟨[.val (.slice b5),.val tI],[.val tI],fun x=>kg x.1 x.2.1⟩
noncomputable def zT:Cx:=⟨tpr,[(26,eA),(48,qa),(49,jE)],[]⟩
theorem ze:aV zT [] none Tryz.f22 lN:=by intro x;kernel_rfl
theorem Aa:av tpr 22:=aq Tryz.func22 rfl (by decide)
theorem Ag:aF tpr 22 lN:=aI ze (.cons kK kH (.cons ED Eu (.cons yA yy (.nil _)))) aK Tryz.func22
def mK:aC:=⟨[.val b5,.val .str],[.val tI],fun x=>pZ x.1 x.2.1⟩
noncomputable def AF:Cx:=⟨tpr,[(45,kr)],[]⟩
theorem zY:aV AF [] none Tryz.f77 mK:=by intro x;kernel_rfl
theorem AW:av tpr 77:=aq Tryz.func77 rfl (by decide)
theorem Bb:aF tpr 77 mK:=aI zY (.cons vl u9 (.nil _)) aK Tryz.func77
def jx:List (Nat×Ann):=[(3,⟨[(0,.val (.slice b5)),(1,.val .str),(2,.val (.clo 77 .unit)),(8,.val tI),(9,.val tI),(10,.val tI)],[],[],bz _⟩),
 (200003,⟨[(0,.val (.slice b5)),(1,.val .str),(2,.val (.clo 77 .unit)),(8,.val tI),(9,.val tI)],[],[],fun _=>0⟩)]
def cU:aC:=⟨[.val (.slice b5),.val .str,.val (.clo 77 .unit)],[.val tI,.val .bool],fun x=>cg x.1 x.2.1 x.2.2.1⟩
noncomputable def kG:Cx:=⟨tpr,[(77,mK)],[]⟩
theorem jQ:aV kG jx none Tryz.f76 cU:=by intro x;kernel_rfl
theorem kI:av tpr 76:=aq Tryz.func76 rfl (by decide)
theorem kL:aF tpr 76 cU:=aI jQ (.cons Bb AW (.nil _)) aK Tryz.func76
def gD:aC:=⟨[.val dx,.val .str],[.val tI,.val .bool],fun x=>gO x.1 x.2.1⟩
noncomputable def CG:Cx:=⟨tpr,[(76,cU)],[]⟩
theorem B4:aV CG [] none Tryz.f38 gD:=by intro x;kernel_rfl
theorem ot:av tpr 38:=aq Tryz.func38 rfl (by decide)
theorem ox:aF tpr 38 gD:=aI B4 (.cons kL kI (.nil _)) aK Tryz.func38
def Cn:List (Nat×Ann):=[(3,⟨[(1,.val tI),(2,.ref 2 0),(6,.own 3 tI),(7,.val tI)],[(2,uX)],[],bz _⟩),
 (200003,⟨[(6,.own 3 tI)],[],[],fun _=>0⟩)]
def mG:aC:=⟨[.val dx,.val tI],[.val (.slice tI),.val .bool],fun x=>gU x.1 x.2.1⟩
noncomputable def Fh:Cx:=⟨tpr,[(38,gD),(96,gv)],[]⟩
theorem El:aV Fh Cn none Tryz.f50 mG:=by intro x;kernel_rfl
theorem xA:av tpr 50:=aq Tryz.func50 rfl (by decide)
theorem xL:aF tpr 50 mG:=aI El (.cons ox ot (.cons qv qs (.nil _))) aK Tryz.func50
def zG:List (Nat×Ann):=[(2,⟨[(1,.ref 1 0),(14,.val (.slice b5)),(15,.val tI),(16,.val tI)],[(1,uX)],[],bz _⟩),
 (9,⟨[(1,.ref 1 0),(37,.val tI),(38,.val tI)],[(1,uX)],[],bz _⟩),
 (16,⟨[(1,.ref 1 0),(52,.val tI),(53,.val tI)],[(1,uX)],[],bz _⟩),
 (200002,⟨[(1,.ref 1 0)],[(1,uX)],[],fun _=>0⟩),
 (200009,⟨[(1,.ref 1 0)],[(1,uX)],[],fun _=>0⟩),
 (200016,⟨[],[],[],fun _=>0⟩)]
def nP:aC:=⟨[.val dx],[.val tI],fun x=>mA x.1⟩
noncomputable def BZ:Cx:=⟨tpr,[(38,gD),(50,mG)],[]⟩
theorem AH:aV BZ zG none Tryz.f23 nP:=by intro x;kernel_rfl
theorem B8:av tpr 23:=aq Tryz.func23 rfl (by decide)
theorem Cb:aF tpr 23 nP:=aI AH (.cons ox ot (.cons xL xA (.nil _))) aK Tryz.func23
def yo:List (Nat×Ann):=[(8,⟨[(1,.ref 1 0),(28,.val tI),(29,.val tI)],[(1,uX)],[],bz _⟩),
 (200008,⟨[(1,.ref 1 0)],[(1,uX)],[],fun _=>0⟩)]
def gQ:aC:=⟨[.val dx],[.val tI],fun x=>gC x.1⟩
noncomputable def zR:Cx:=⟨tpr,[(20,nr),(21,x6),(22,lN),(23,nP)],[]⟩
theorem za:aV zR yo none Tryz.f7 gQ:=by intro x;kernel_rfl
theorem rS:av tpr 7:=aq Tryz.func7 rfl (by decide)
theorem rY:aF tpr 7 gQ:=aI za (.cons vS vO (.cons Mb LS (.cons Ag Aa (.cons Cb B8 (.nil _))))) aK Tryz.func7
end Go.Proofs.SeatU
end
