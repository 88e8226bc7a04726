/-
  Each function that the law reaches is as its plain model says, a further part. No condition.
-/
import Derived.Test.YtnamfglkolhhgacGreatDoorYw
set_option linter.all false
set_option maxRecDepth 100000
noncomputable section
namespace Go.Proofs.SeatU
open Go.Dn Go.Md Go.Proofs
def oP:List CK:=[.val .bool,.own 106 (.int .u32)]
def nI:List CK:=[.val .bool,.val (.slice (.int .u32))]
def ve:List CK:=[.val .str,.val .str,.val tI,.val (.slice bp)]
def Cs:List (Nat×Ann):=[(3,⟨[(1,.val tI),(2,.ref 2 0),(6,.own 3 tI),(7,.val tI)],[(2,ve)],[],bC _⟩),
 (200003,⟨[(6,.own 3 tI)],[],[],fun _=>0⟩)]
def jX:aA:=⟨[.val bG,.val tI],[.val (.slice tI),.val .bool],fun x=>gO x.1 x.2.1⟩
noncomputable def Fm:Cx:=⟨tpr,[(16,dL),(49,iG)],[]⟩
theorem Ep:bg Fm Cs none Tryz.f20 jX:=by intro x;kernel_rfl
theorem rH:ax tpr 20:=av Tryz.func20 rfl (by decide)
theorem rL:aD tpr 20 jX:=aG Ep (.cons gf fW (.cons qM qI (.nil _))) aN Tryz.func20
def zW:List (Nat×Ann):=[(2,⟨[(1,.ref 1 0),(14,.val (.slice bp)),(15,.val tI),(16,.val tI)],[(1,ve)],[],bC _⟩),
 (9,⟨[(1,.ref 1 0),(37,.val tI),(38,.val tI)],[(1,ve)],[],bC _⟩),
 (16,⟨[(1,.ref 1 0),(52,.val tI),(53,.val tI)],[(1,ve)],[],bC _⟩),
 (200002,⟨[(1,.ref 1 0)],[(1,ve)],[],fun _=>0⟩),
 (200009,⟨[(1,.ref 1 0)],[(1,ve)],[],fun _=>0⟩),
 (200016,⟨[],[],[],fun _=>0⟩)]
def oq:aA:=⟨[.val bG],[.val tI],fun x=>nk x.1⟩
noncomputable def B0:Cx:=⟨tpr,[(16,dL),(20,jX)],[]⟩
theorem AU:bg B0 zW none Tryz.f48 oq:=by intro x;kernel_rfl
theorem Ca:ax tpr 48:=av Tryz.func48 rfl (by decide)
theorem Cd:aD tpr 48 oq:=aG AU (.cons gf fW (.cons rL rH (.nil _))) aN Tryz.func48
def yF:List (Nat×Ann):=[(8,⟨[(1,.ref 1 0),(28,.val tI),(29,.val tI)],[(1,ve)],[],bC _⟩),
 (200008,⟨[(1,.ref 1 0)],[(1,ve)],[],fun _=>0⟩)]
def gl:aA:=⟨[.val bG],[.val tI],fun x=>b6 x.1⟩
noncomputable def z8:Cx:=⟨tpr,[(45,rm),(46,yt),(47,mD),(48,oq)],[]⟩
theorem zw:bg z8 yF none Tryz.f19 gl:=by intro x;kernel_rfl
theorem mj:ax tpr 19:=av Tryz.func19 rfl (by decide)
theorem mq:aD tpr 19 gl:=aG zw (.cons BS BO (.cons LM Lr (.cons Ao Ai (.cons Cd Ca (.nil _))))) aN Tryz.func19
def eV:aA:=⟨[.val bG,.val .str,.val .bool],[.val tI],fun x=>cR x.1 x.2.1 x.2.2.1⟩
noncomputable def AR:Cx:=⟨tpr,[(16,dL),(19,gl)],[]⟩
theorem Ac:bg AR [] none Tryz.f11 eV:=by intro x;kernel_rfl
theorem jx:ax tpr 11:=av Tryz.func11 rfl (by decide)
theorem jA:aD tpr 11 eV:=aG Ac (.cons gf fW (.cons mq mj (.nil _))) aN Tryz.func11
def nv:aA:=⟨[.val tI,.val (.ptr bG),.val (.ptr .str)],[.val .bool],fun x=>qq x.1 x.2.1 x.2.2.1⟩
noncomputable def AQ:Cx:=⟨tpr,[],[]⟩
theorem Ab:bg AQ [] none Tryz.f42 nv:=by intro x;kernel_rfl
theorem A4:ax tpr 42:=av Tryz.func42 rfl (by decide)
theorem Bj:aD tpr 42 nv:=aG Ab (.nil _) aN Tryz.func42
def wU:List (Nat×Ann):=[(2,⟨[(0,.val (.slice tI)),(1,.val (.clo 42 (.pair (.ptr bG) (.ptr .str)))),(7,.val tI),(8,.val tI)],[],[],bC _⟩),
 (200002,⟨[],[],[],fun _=>0⟩)]
def kQ:aA:=⟨[.val (.slice tI),.val (.clo 42 (.pair (.ptr bG) (.ptr .str)))],[.val tI],fun x=>nr x.1 x.2.1⟩
noncomputable def yH:Cx:=⟨tpr,[(42,nv)],[]⟩
theorem xL:bg yH wU none Tryz.f80 kQ:=by intro x;kernel_rfl
theorem yN:ax tpr 80:=av Tryz.func80 rfl (by decide)
theorem yP:aD tpr 80 kQ:=aG xL (.cons Bj A4 (.nil _)) aN Tryz.func80
def jc:aA:=⟨[.val (.slice tI),.val (.clo 42 (.pair (.ptr bG) (.ptr .str)))],[.val .bool],fun x=>kN x.1 x.2.1⟩
noncomputable def wo:Cx:=⟨tpr,[(80,kQ)],[]⟩
theorem vl:bg wo [] none Tryz.f41 jc:=by intro x;kernel_rfl
theorem wA:ax tpr 41:=av Tryz.func41 rfl (by decide)
theorem wC:aD tpr 41 jc:=aG vl (.cons yP yN (.nil _)) aN Tryz.func41
def lK:aA:=⟨[.val bG,.val tI,.val .str],[.val .bool],fun x=>lD x.1 x.2.1 x.2.2.1⟩
noncomputable def CQ:Cx:=⟨tpr,[(20,jX),(41,jc)],[]⟩
theorem B4:bg CQ [] none Tryz.f17 lK:=by intro x;kernel_rfl
theorem vn:ax tpr 17:=av Tryz.func17 rfl (by decide)
theorem vG:aD tpr 17 lK:=aG B4 (.cons rL rH (.cons wC wA (.nil _))) aN Tryz.func17
def qw:aA:=⟨[.val bG,.val tI,.val .str],[.val .bool],fun x=>iw x.1 x.2.1 x.2.2.1⟩
noncomputable def Ef:Cx:=⟨tpr,[(17,lK)],[]⟩
theorem CY:bg Ef [] none Tryz.f12 qw:=by intro x;kernel_rfl
theorem Ew:ax tpr 12:=av Tryz.func12 rfl (by decide)
theorem EE:aD tpr 12 qw:=aG CY (.cons vG vn (.nil _)) aN Tryz.func12
def Cv:List (Nat×Ann):=[(1,⟨[(0,.val (.slice (.int .u32)))],[],[],bC _⟩),
 (200001,⟨[(0,.val (.slice (.int .u32)))],[],[],fun _=>0⟩)]
def kg:aA:=⟨[.val (.slice (.int .u32))],[.val (.slice (.int .u32))],fun x=>kW x.1⟩
noncomputable def Fq:Cx:=⟨tpr,[],[]⟩
theorem Et:bg Fq Cv none Tryz.f89 kg:=by intro x;kernel_rfl
theorem rI:ax tpr 89:=av Tryz.func89 rfl (by decide)
theorem rM:aD tpr 89 kg:=aG Et (.nil _) aN Tryz.func89
def jd:aA:=⟨[.val .bool,.val (.slice (.int .u32))],[.val aC],fun x=>fO x.1 x.2.1⟩
noncomputable def J7:Cx:=⟨tpr,[(89,kg)],[]⟩
theorem Io:bg J7 [] none Tryz.f55 jd:=by intro x;kernel_rfl
theorem nK:ax tpr 55:=av Tryz.func55 rfl (by decide)
theorem nM:aD tpr 55 jd:=aG Io (.cons rM rI (.nil _)) aN Tryz.func55
def JX:List (Nat×Ann):=[(100003,⟨[(0,.val tI),(2,.ref 2 0),(3,.val (.int .u64))],[(2,oP)],[],fun _=>0⟩)]
def oc:aA:=⟨[.val tI],[.val aC],fun x=>nE x.1⟩
noncomputable def Ms:Cx:=⟨tpr,[(55,jd)],[]⟩
theorem Lb:bg Ms JX none Tryz.f25 oc:=by intro x;kernel_rfl
theorem uT:ax tpr 25:=av Tryz.func25 rfl (by decide)
theorem uV:aD tpr 25 oc:=aG Lb (.cons nM nK (.nil _)) aN Tryz.func25
def AO:List (Nat×Ann):=[(3,⟨[(2,.ref 2 0),(3,.ref 3 0),(4,.ref 4 0),(5,.rowR 18),(20,.val (.slice (.int .u32))),(21,.val tI),(22,.val tI)],[(2,nI),(3,nI),(4,oP)],[.rowC 18 106 (.int .u32)],bC _⟩),
 (7,⟨[(2,.ref 2 0),(3,.ref 3 0),(4,.ref 4 0),(5,.rowR 18),(6,.val tI),(7,.val (.int .u32)),(8,.val (.int .u64)),(20,.val (.slice (.int .u32))),(21,.val tI),(22,.val tI),(28,.val (.slice (.int .u32))),(29,.val tI),(30,.val tI)],[(2,nI),(3,nI),(4,oP)],[.rowC 18 106 (.int .u32)],bC _⟩),
 (200003,⟨[(2,.ref 2 0),(3,.ref 3 0),(4,.ref 4 0),(5,.rowR 18)],[(2,nI),(3,nI),(4,oP)],[.rowC 18 106 (.int .u32)],fun _=>0⟩),
 (200007,⟨[(2,.ref 2 0),(3,.ref 3 0),(4,.ref 4 0),(5,.rowR 18),(6,.val tI),(8,.val (.int .u64)),(20,.val (.slice (.int .u32))),(21,.val tI),(22,.val tI)],[(2,nI),(3,nI),(4,oP)],[.rowC 18 106 (.int .u32)],fun _=>0⟩)]
def lN:aA:=⟨[.val aC,.val aC],[.val aC],fun x=>lP x.1 x.2.1⟩
noncomputable def CU:Cx:=⟨tpr,[(55,jd)],[]⟩
theorem B8:bg CU AO none Tryz.f59 lN:=by intro x;kernel_rfl
theorem vu:ax tpr 59:=av Tryz.func59 rfl (by decide)
theorem vN:aD tpr 59 lN:=aG B8 (.cons nM nK (.nil _)) aN Tryz.func59
def Fc:List (Nat×Ann):=[(3,⟨[(2,.ref 2 0),(3,.ref 3 0),(5,.val tI),(6,.val tI)],[(2,oP),(3,nI)],[],bC _⟩),
 (200003,⟨[(2,.ref 2 0),(3,.ref 3 0)],[(2,oP),(3,nI)],[],fun _=>0⟩)]
def uB:aA:=⟨[.val tI],[.val aC],fun x=>u5 x.1⟩
noncomputable def Ig:Cx:=⟨tpr,[(25,oc),(59,lN)],[]⟩
theorem GJ:bg Ig Fc none Tryz.f60 uB:=by intro x;kernel_rfl
theorem Ix:ax tpr 60:=av Tryz.func60 rfl (by decide)
theorem IQ:aD tpr 60 uB:=aG GJ (.cons uV uT (.cons vN vu (.nil _))) aN Tryz.func60
def nt:aA:=⟨[.val dS,.val tI],[.val aC],fun x=>dG x.1 x.2.1⟩
noncomputable def Fi:Cx:=⟨tpr,[(25,oc),(59,lN),(60,uB)],[]⟩
theorem El:bg Fi [] none Tryz.f27 nt:=by intro x;kernel_rfl
theorem xR:ax tpr 27:=av Tryz.func27 rfl (by decide)
theorem x6:aD tpr 27 nt:=aG El (.cons uV uT (.cons vN vu (.cons IQ Ix (.nil _)))) aN Tryz.func27
def HY:List (Nat×Ann):=[(6,⟨[(1,.val (.slice (.int .u32))),(5,.own 106 (.int .u32)),(6,.val (.int .u64)),(20,.val (.slice (.int .u32))),(21,.val tI),(22,.val tI)],[],[],bC _⟩),
 (100002,⟨[(0,.val (.slice (.int .u32))),(1,.val (.slice (.int .u32)))],[],[],fun _=>0⟩),
 (100010,⟨[(1,.val (.slice (.int .u32))),(5,.own 106 (.int .u32)),(6,.val (.int .u64)),(20,.val (.slice (.int .u32))),(21,.val tI),(22,.val tI)],[],[],fun _=>0⟩),
 (200006,⟨[(5,.own 106 (.int .u32)),(6,.val (.int .u64))],[],[],fun _=>0⟩)]
def yw:aA:=⟨[.val (.slice (.int .u32)),.val (.slice (.int .u32))],[.row 106 (.int .u32)],fun x=>vY x.1 x.2.1⟩
noncomputable def K5:Cx:=⟨tpr,[],[]⟩
theorem Ka:bg K5 HY none Tryz.f56 yw:=by intro x;kernel_rfl
theorem Lt:ax tpr 56:=av Tryz.func56 rfl (by decide)
theorem LP:aD tpr 56 yw:=aG Ka (.nil _) aN Tryz.func56
def Fe:List (Nat×Ann):=[(6,⟨[(1,.val (.slice (.int .u32))),(5,.own 106 (.int .u32)),(6,.val (.int .u64)),(20,.val (.slice (.int .u32))),(21,.val tI),(22,.val tI)],[],[],bC _⟩),
 (100002,⟨[(0,.val (.slice (.int .u32))),(1,.val (.slice (.int .u32)))],[],[],fun _=>0⟩),
 (100010,⟨[(1,.val (.slice (.int .u32))),(5,.own 106 (.int .u32)),(6,.val (.int .u64)),(20,.val (.slice (.int .u32))),(21,.val tI),(22,.val tI)],[],[],fun _=>0⟩),
 (200006,⟨[(5,.own 106 (.int .u32)),(6,.val (.int .u64))],[],[],fun _=>0⟩)]
def uC:aA:=⟨[.val (.slice (.int .u32)),.val (.slice (.int .u32))],[.val (.slice (.int .u32))],fun x=>zO x.1 x.2.1⟩
noncomputable def Ih:Cx:=⟨tpr,[],[]⟩
theorem GK:bg Ih Fe none Tryz.f56 uC:=by intro x;kernel_rfl
theorem Iy:ax tpr 56:=av Tryz.func56 rfl (by decide)
theorem IS:aD tpr 56 uC:=aG GK (.nil _) aN Tryz.func56
def Cu:List (Nat×Ann):=[(4,⟨[(0,.val (.slice (.int .u32))),(1,.val (.slice (.int .u32))),(5,.val tI)],[],[],bC _⟩),
 (200004,⟨[],[],[],fun _=>0⟩)]
def nx:aA:=⟨[.val (.slice (.int .u32)),.val (.slice (.int .u32))],[.val tI],fun x=>nR x.1 x.2.1⟩
noncomputable def Fp:Cx:=⟨tpr,[],[]⟩
theorem Es:bg Fp Cu none Tryz.f57 nx:=by intro x;kernel_rfl
theorem xW:ax tpr 57:=av Tryz.func57 rfl (by decide)
theorem yb:aD tpr 57 nx:=aG Es (.nil _) aN Tryz.func57
def Gm:List (Nat×Ann):=[(4,⟨[(1,.val (.slice (.int .u32))),(5,.own 106 (.int .u32)),(6,.val (.int .u64)),(13,.val (.slice (.int .u32))),(14,.val tI),(15,.val tI)],[],[],bC _⟩),
 (100008,⟨[(1,.val (.slice (.int .u32))),(5,.own 106 (.int .u32)),(9,.val (.int .u64)),(13,.val (.slice (.int .u32))),(14,.val tI),(15,.val tI)],[],[],fun _=>0⟩),
 (200004,⟨[(5,.own 106 (.int .u32))],[],[],fun _=>0⟩)]
def rq:aA:=⟨[.val (.slice (.int .u32)),.val (.slice (.int .u32))],[.val (.slice (.int .u32))],fun x=>qj x.1 x.2.1⟩
noncomputable def J6:Cx:=⟨tpr,[(89,kg)],[]⟩
theorem Im:bg J6 Gm none Tryz.f58 rq:=by intro x;kernel_rfl
theorem BP:ax tpr 58:=av Tryz.func58 rfl (by decide)
theorem BT:aD tpr 58 rq:=aG Im (.cons rM rI (.nil _)) aN Tryz.func58
def mc:aA:=⟨[.val aC,.val aC],[.val aC],fun x=>eW x.1 x.2.1⟩
noncomputable def Ei:Cx:=⟨tpr,[(55,jd),(56,uC),(57,nx),(58,rq)],[]⟩
theorem C1:bg Ei [] none Tryz.f26 mc:=by intro x;kernel_rfl
theorem wK:ax tpr 26:=av Tryz.func26 rfl (by decide)
theorem wM:aD tpr 26 mc:=aG C1 (.cons nM nK (.cons IS Iy (.cons yb xW (.cons BT BP (.nil _))))) aN Tryz.func26
def jY:aA:=⟨[.map aF aC,.val aF,.val dS],[],fun x=>iU x.1 x.2.1 x.2.2.1⟩
noncomputable def xI:Cx:=⟨tpr,[(25,oc),(26,mc),(27,nt)],[]⟩
theorem wY:bg xI [] none Tryz.f13 jY:=by intro x;kernel_rfl
theorem xU:ax tpr 13:=av Tryz.func13 rfl (by decide)
theorem x9:aD tpr 13 jY:=aG wY (.cons uV uT (.cons wM wK (.cons x6 xR (.nil _)))) aN Tryz.func13
def Ec:List (Nat×Ann):=[(4,⟨[(2,.ref 2 0),(3,.ref 3 0),(4,.ref 4 0),(5,.ref 5 0),(6,.rowR 12),(7,.val (.slice (.int .u32))),(8,.val tI)],[(2,nI),(3,nI),(4,oP),(5,oP)],[.rowC 12 106 (.int .u32)],bC _⟩),
 (200004,⟨[(4,.ref 4 0),(5,.ref 5 0),(6,.rowR 12),(7,.val (.slice (.int .u32)))],[(4,oP),(5,oP)],[.rowC 12 106 (.int .u32)],fun _=>0⟩)]
def th:aA:=⟨[.val aC,.val aC],[.val aC,.val aC],fun x=>pL x.1 x.2.1⟩
noncomputable def Gz:Cx:=⟨tpr,[(55,jd),(56,yw),(57,nx),(58,rq),(89,kg)],[]⟩
theorem Fx:bg Gz Ec none Tryz.f94 th:=by intro x;kernel_rfl
theorem G5:ax tpr 94:=av Tryz.func94 rfl (by decide)
theorem Ht:aD tpr 94 th:=aG Fx (.cons nM nK (.cons LP Lt (.cons yb xW (.cons BT BP (.cons rM rI (.nil _)))))) aN Tryz.func94
def qA:aA:=⟨[.val aC],[.val tI],fun x=>jP x.1⟩
noncomputable def Ej:Cx:=⟨tpr,[],[]⟩
theorem C2:bg Ej [] none Tryz.f95 qA:=by intro x;kernel_rfl
theorem EB:ax tpr 95:=av Tryz.func95 rfl (by decide)
theorem EI:aD tpr 95 qA:=aG C2 (.nil _) aN Tryz.func95
def pG:aA:=⟨[.val aC],[.val aC],fun x=>oJ x.1⟩
noncomputable def CT:Cx:=⟨tpr,[(55,jd)],[]⟩
theorem B7:bg CT [] none Tryz.f96 pG:=by intro x;kernel_rfl
theorem Db:ax tpr 96:=av Tryz.func96 rfl (by decide)
theorem Ds:aD tpr 96 pG:=aG B7 (.cons nM nK (.nil _)) aN Tryz.func96
end Go.Proofs.SeatU
end
