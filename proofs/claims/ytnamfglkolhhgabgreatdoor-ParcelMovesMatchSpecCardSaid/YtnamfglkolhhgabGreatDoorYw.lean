/-
  Each function that the law reaches is as its plain model says. No condition.
-/
import Derived.Test.YtnamfglkolhhgabGreatDoorYv
set_option linter.all false
set_option maxRecDepth 100000
noncomputable section
namespace Go.Proofs
abbrev tpr:=Tryz.prog
end Go.Proofs
namespace Go.Proofs.SeatU
open Go.Dn Go.Md Go.Proofs
theorem aH:Tryz.prog.follows .mixedOrders=true:=by kernel_rfl
def aO (X:Cx) (anns:List (Nat×Ann)) (ar:Option Ty) (fn:Func) (sp:ax):Prop:=∀ x,Qf X anns ar fn sp x=sp.m x
theorem aG {X:Cx} {anns:List (Nat×Ann)} {ar:Option Ty} {fn:Func} {sp:ax} (h:aO X anns ar fn sp) (hX:bT X) (hm:X.P.follows .mixedOrders=true) {f:FuncId} (hf:X.P.funcs[f]? =some fn):aD X.P f sp:=Ya hX hm sp anns ar hf fun x _ e=>(h x).trans e
def xq:List CK:=[.val .str,.val .str,.val tI,.val (.slice aj)]
def sX:ax:=⟨[.val .str],[.val .bool],fun x=>gH x.1⟩
noncomputable def Oc:Cx:=⟨tpr,[(73,vl)],[]⟩
theorem LW:aO Oc [] none Tryz.f40 sX:=by intro x;kernel_rfl
theorem EG:aq tpr 40:=ak Tryz.func40 rfl (by decide)
theorem EM:aD tpr 40 sX:=aG LW (.cons K1 KE (.nil _)) aH Tryz.func40
def kD:ax:=⟨[.val tI,.val tI,.val tI],[.val .bool],fun x=>kr x.1 x.2.1 x.2.2.1⟩
noncomputable def LJ:Cx:=⟨tpr,[],[]⟩
theorem Kb:aO LJ [] none Tryz.f68 kD:=by intro x;kernel_rfl
theorem qW:aq tpr 68:=ak Tryz.func68 rfl (by decide)
theorem q8:aD tpr 68 kD:=aG Kb (.nil _) aH Tryz.func68
def AJ:ax:=⟨[.val tI],[.val .bool],fun x=>Bq x.1⟩
noncomputable def PZ:Cx:=⟨tpr,[(68,kD)],[]⟩
theorem Ou:aO PZ [] none Tryz.f41 AJ:=by intro x;kernel_rfl
theorem QA:aq tpr 41:=ak Tryz.func41 rfl (by decide)
theorem Q5:aD tpr 41 AJ:=aG Ou (.cons q8 qW (.nil _)) aH Tryz.func41
def oq:ax:=⟨[.val tI],[.val .bool],fun x=>sj x.1⟩
noncomputable def IT:Cx:=⟨tpr,[(68,kD)],[]⟩
theorem HO:aO IT [] none Tryz.f113 oq:=by intro x;kernel_rfl
theorem Aa:aq tpr 113:=ak Tryz.func113 rfl (by decide)
theorem Ah:aD tpr 113 oq:=aG HO (.cons q8 qW (.nil _)) aH Tryz.func113
def rK:ax:=⟨[.val tI],[.val (.slice tI)],fun x=>vF x.1⟩
noncomputable def HJ:Cx:=⟨tpr,[],[]⟩
theorem FT:aO HJ [] none Tryz.f159 rK:=by intro x;kernel_rfl
theorem HV:aq tpr 159:=ak Tryz.func159 rfl (by decide)
theorem H6:aD tpr 159 rK:=aG FT (.nil _) aH Tryz.func159
def Cu:List (Nat×Ann):=[(2,⟨[(0,.val (.slice tI)),(1,.val tI),(7,.val tI),(8,.val tI)],[],[],aT _⟩),
 (200002,⟨[],[],[],fun _=>0⟩)]
def pO:ax:=⟨[.val (.slice tI),.val tI],[.val tI],fun x=>tK x.1 x.2.1⟩
noncomputable def EY:Cx:=⟨tpr,[],[]⟩
theorem Dz:aO EY Cu none Tryz.f83 pO:=by intro x;kernel_rfl
theorem Fa:aq tpr 83:=ak Tryz.func83 rfl (by decide)
theorem Fe:aD tpr 83 pO:=aG Dz (.nil _) aH Tryz.func83
def fK:ax:=⟨[.val (.slice tI),.val tI],[.val .bool],fun x=>fq x.1 x.2.1⟩
noncomputable def BS:Cx:=⟨tpr,[(83,pO)],[]⟩
theorem A8:aO BS [] none Tryz.f52 fK:=by intro x;kernel_rfl
theorem mC:aq tpr 52:=ak Tryz.func52 rfl (by decide)
theorem mH:aD tpr 52 fK:=aG A8 (.cons Fe Fa (.nil _)) aH Tryz.func52
def IG:List (Nat×Ann):=[(2,⟨[(0,.val .str),(1,.val (.int .u8)),(2,.val (.int .u8)),(9,.val tI),(10,.val tI)],[],[],aT _⟩),
 (200002,⟨[],[],[],fun _=>0⟩)]
def wo:ax:=⟨[.val .str,.val (.int .u8),.val (.int .u8)],[.val .bool],fun x=>B0 x.1 x.2.1 x.2.2.1⟩
noncomputable def LI:Cx:=⟨tpr,[],[]⟩
theorem Ka:aO LI IG none Tryz.f154 wo:=by intro x;kernel_rfl
theorem Mf:aq tpr 154:=ak Tryz.func154 rfl (by decide)
theorem MC:aD tpr 154 wo:=aG Ka (.nil _) aH Tryz.func154
def qa:ax:=⟨[.val .str],[.val .bool],fun x=>qu x.1⟩
noncomputable def J3:Cx:=⟨tpr,[(154,wo)],[]⟩
theorem I2:aO J3 [] none Tryz.f111 qa:=by intro x;kernel_rfl
theorem Bn:aq tpr 111:=ak Tryz.func111 rfl (by decide)
theorem Bs:aD tpr 111 qa:=aG I2 (.cons MC Mf (.nil _)) aH Tryz.func111
def HF:List (Nat×Ann):=[(3,⟨[(0,.val .str),(3,.val tI),(7,.val tI),(8,.val tI)],[],[],aT _⟩),
 (200003,⟨[(3,.val tI)],[],[],fun _=>0⟩)]
def vh:ax:=⟨[.val .str],[.val .bool],fun x=>zL x.1⟩
noncomputable def J2:Cx:=⟨tpr,[],[]⟩
theorem I1:aO J2 HF none Tryz.f160 vh:=by intro x;kernel_rfl
theorem Kx:aq tpr 160:=ak Tryz.func160 rfl (by decide)
theorem KU:aD tpr 160 vh:=aG I1 (.nil _) aH Tryz.func160
def mg:ax:=⟨[.val tI,.val .str],[.val .bool],fun x=>pR x.1 x.2.1⟩
noncomputable def FL:Cx:=⟨tpr,[(52,fK),(111,qa),(117,tM),(158,BC),(159,rK),(160,vh)],[]⟩
theorem E0:aO FL [] none Tryz.f118 mg:=by intro x;kernel_rfl
theorem xG:aq tpr 118:=ak Tryz.func118 rfl (by decide)
theorem xS:aD tpr 118 mg:=aG E0 (.cons mH mC (.cons Bs Bn (.cons Ag z8 (.cons KV Ky (.cons H6 HV (.cons KU Kx (.nil _))))))) aH Tryz.func118
def qG:ax:=⟨[.val tI,.val .str],[.val .bool,.val tI],fun x=>uw x.1 x.2.1⟩
noncomputable def FK:Cx:=⟨tpr,[(113,oq),(118,mg)],[]⟩
theorem EZ:aO FK [] none Tryz.f132 qG:=by intro x;kernel_rfl
theorem F5:aq tpr 132:=ak Tryz.func132 rfl (by decide)
theorem Gn:aD tpr 132 qG:=aG EZ (.cons Ah Aa (.cons xS xG (.nil _))) aH Tryz.func132
def rM:ax:=⟨[.val .str],[.val .bool],fun x=>ri x.1⟩
noncomputable def HL:Cx:=⟨tpr,[(132,qG)],[]⟩
theorem FV:aO HL [] none Tryz.f74 rM:=by intro x;kernel_rfl
theorem HX:aq tpr 74:=ak Tryz.func74 rfl (by decide)
theorem H8:aD tpr 74 rM:=aG FV (.cons Gn F5 (.nil _)) aH Tryz.func74
def mM:ax:=⟨[.val bK],[.val tI],fun x=>iA x.1⟩
noncomputable def BP:Cx:=⟨tpr,[(68,kD)],[]⟩
theorem A5:aO BP [] none Tryz.f133 mM:=by intro x;kernel_rfl
theorem BY:aq tpr 133:=ak Tryz.func133 rfl (by decide)
theorem B5:aD tpr 133 mM:=aG A5 (.cons q8 qW (.nil _)) aH Tryz.func133
def II:List (Nat×Ann):=[(3,⟨[(3,.val tI),(4,.val tI),(5,.val tI)],[],[],aT _⟩),
 (200003,⟨[(3,.val tI)],[],[],fun _=>0⟩)]
def wq:ax:=⟨[.val tI],[.val tI],fun x=>B7 x.1⟩
noncomputable def LK:Cx:=⟨tpr,[],[]⟩
theorem Kc:aO LK II none Tryz.f170 wq:=by intro x;kernel_rfl
theorem Mg:aq tpr 170:=ak Tryz.func170 rfl (by decide)
theorem MD:aD tpr 170 wq:=aG Kc (.nil _) aH Tryz.func170
def vi:ax:=⟨[.val bK,.val tI,.val tI],[.val .bool],fun x=>uN x.1 x.2.1 x.2.2.1⟩
noncomputable def J4:Cx:=⟨tpr,[(170,wq)],[]⟩
theorem I3:aO J4 [] none Tryz.f134 vi:=by intro x;kernel_rfl
theorem Kz:aq tpr 134:=ak Tryz.func134 rfl (by decide)
theorem KW:aD tpr 134 vi:=aG I3 (.cons MD Mg (.nil _)) aH Tryz.func134
def iP:ax:=⟨[.val bK,.val .bool],[.val tI],fun x=>cL x.1 x.2.1⟩
noncomputable def BQ:Cx:=⟨tpr,[(133,mM),(134,vi)],[]⟩
theorem A6:aO BQ [] none Tryz.f75 iP:=by intro x;kernel_rfl
theorem rS:aq tpr 75:=ak Tryz.func75 rfl (by decide)
theorem rU:aD tpr 75 iP:=aG A6 (.cons B5 BY (.cons KW Kz (.nil _))) aH Tryz.func75
def JK:List (Nat×Ann):=[(3,⟨[(3,.val tI),(6,.val (.slice tI)),(7,.val tI),(8,.val tI)],[],[],aT _⟩),
 (200003,⟨[(3,.val tI)],[],[],fun _=>0⟩)]
def yB:ax:=⟨[.val (.slice tI)],[.val tI],fun x=>yS x.1⟩
noncomputable def Ob:Cx:=⟨tpr,[],[]⟩
theorem LV:aO Ob JK none Tryz.f84 yB:=by intro x;kernel_rfl
theorem OG:aq tpr 84:=ak Tryz.func84 rfl (by decide)
theorem OU:aD tpr 84 yB:=aG LV (.nil _) aH Tryz.func84
def gB:ax:=⟨[.val aL,.val aL],[.val tI],fun x=>dn x.1 x.2.1⟩
noncomputable def yT:Cx:=⟨tpr,[(30,jc),(84,yB)],[]⟩
theorem yl:aO yT [] none Tryz.f55 gB:=by intro x;kernel_rfl
theorem pU:aq tpr 55:=ak Tryz.func55 rfl (by decide)
theorem pW:aD tpr 55 gB:=aG yl (.cons qw qo (.cons OU OG (.nil _))) aH Tryz.func55
def yQ:List (Nat×Ann):=[(4,⟨[(0,.val (.slice aL)),(9,.val (.slice aL)),(10,.val tI),(11,.val tI)],[],[],aT _⟩),
 (200004,⟨[],[],[],fun _=>0⟩)]
def lE:ax:=⟨[.val (.slice aL)],[.val tI],fun x=>gP x.1⟩
noncomputable def A3:Cx:=⟨tpr,[(40,sX),(55,gB),(75,iP)],[]⟩
theorem zV:aO A3 yQ none Tryz.f76 lE:=by intro x;kernel_rfl
theorem Ba:aq tpr 76:=ak Tryz.func76 rfl (by decide)
theorem Bc:aD tpr 76 lE:=aG zV (.cons EM EG (.cons pW pU (.cons rU rS (.nil _)))) aH Tryz.func76
def nB:ax:=⟨[.val (.slice aj),.val tI],[.val tI],fun x=>lX x.1 x.2.1⟩
noncomputable def CG:Cx:=⟨tpr,[(74,rM),(75,iP),(76,lE)],[]⟩
theorem BV:aO CG [] none Tryz.f42 nB:=by intro x;kernel_rfl
theorem CR:aq tpr 42:=ak Tryz.func42 rfl (by decide)
theorem C0:aD tpr 42 nB:=aG BV (.cons H8 HX (.cons rU rS (.cons Bc Ba (.nil _)))) aH Tryz.func42
def ov:ax:=⟨[.val aj,.val .str],[.val tI],fun x=>rJ x.1 x.2.1⟩
noncomputable def Du:Cx:=⟨tpr,[(30,jc)],[]⟩
theorem CL:aO Du [] none Tryz.f34 ov:=by intro x;kernel_rfl
theorem DK:aq tpr 34:=ak Tryz.func34 rfl (by decide)
theorem DZ:aD tpr 34 ov:=aG CL (.cons qw qo (.nil _)) aH Tryz.func34
def lq:List (Nat×Ann):=[(3,⟨[(0,.val (.slice aj)),(1,.val .str),(2,.val (.clo 34 .unit)),(8,.val tI),(9,.val tI),(10,.val tI)],[],[],aT _⟩),
 (200003,⟨[(0,.val (.slice aj)),(1,.val .str),(2,.val (.clo 34 .unit)),(8,.val tI),(9,.val tI)],[],[],fun _=>0⟩)]
def dy:ax:=⟨[.val (.slice aj),.val .str,.val (.clo 34 .unit)],[.val tI,.val .bool],fun x=>cq x.1 x.2.1 x.2.2.1⟩
noncomputable def mz:Cx:=⟨tpr,[(34,ov)],[]⟩
theorem lR:aO mz lq none Tryz.f33 dy:=by intro x;kernel_rfl
theorem mB:aq tpr 33:=ak Tryz.func33 rfl (by decide)
theorem mG:aD tpr 33 dy:=aG lR (.cons DZ DK (.nil _)) aH Tryz.func33
def dM:ax:=⟨[.val aX,.val .str],[.val tI,.val .bool],fun x=>b6 x.1 x.2.1⟩
noncomputable def FN:Cx:=⟨tpr,[(33,dy)],[]⟩
theorem E2:aO FN [] none Tryz.f13 dM:=by intro x;kernel_rfl
theorem gq:aq tpr 13:=ak Tryz.func13 rfl (by decide)
theorem gw:aD tpr 13 dM:=aG E2 (.cons mG mB (.nil _)) aH Tryz.func13
def Fu:List (Nat×Ann):=[(3,⟨[(1,.val tI),(2,.ref 2 0),(6,.own 3 tI),(7,.val tI)],[(2,xq)],[],aT _⟩),
 (200003,⟨[(6,.own 3 tI)],[],[],fun _=>0⟩)]
def ot:ax:=⟨[.val aX,.val tI],[.val (.slice tI),.val .bool],fun x=>jB x.1 x.2.1⟩
noncomputable def IW:Cx:=⟨tpr,[(13,dM),(52,fK)],[]⟩
theorem HR:aO IW Fu none Tryz.f35 ot:=by intro x;kernel_rfl
theorem Ab:aq tpr 35:=ak Tryz.func35 rfl (by decide)
theorem Ai:aD tpr 35 ot:=aG HR (.cons gw gq (.cons mH mC (.nil _))) aH Tryz.func35
def Cs:List (Nat×Ann):=[(2,⟨[(1,.ref 1 0),(14,.val (.slice aj)),(15,.val tI),(16,.val tI)],[(1,xq)],[],aT _⟩),
 (9,⟨[(1,.ref 1 0),(37,.val tI),(38,.val tI)],[(1,xq)],[],aT _⟩),
 (16,⟨[(1,.ref 1 0),(52,.val tI),(53,.val tI)],[(1,xq)],[],aT _⟩),
 (200002,⟨[(1,.ref 1 0)],[(1,xq)],[],fun _=>0⟩),
 (200009,⟨[(1,.ref 1 0)],[(1,xq)],[],fun _=>0⟩),
 (200016,⟨[],[],[],fun _=>0⟩)]
def pN:ax:=⟨[.val aX],[.val tI],fun x=>oe x.1⟩
noncomputable def EW:Cx:=⟨tpr,[(13,dM),(35,ot)],[]⟩
theorem Dx:aO EW Cs none Tryz.f43 pN:=by intro x;kernel_rfl
theorem E9:aq tpr 43:=ak Tryz.func43 rfl (by decide)
theorem Fc:aD tpr 43 pN:=aG Dx (.cons gw gq (.cons Ai Ab (.nil _))) aH Tryz.func43
def A2:List (Nat×Ann):=[(8,⟨[(1,.ref 1 0),(28,.val tI),(29,.val tI)],[(1,xq)],[],aT _⟩),
 (200008,⟨[(1,.ref 1 0)],[(1,xq)],[],fun _=>0⟩)]
def er:ax:=⟨[.val aX],[.val tI],fun x=>cZ x.1⟩
noncomputable def CF:Cx:=⟨tpr,[(40,sX),(41,AJ),(42,nB),(43,pN)],[]⟩
theorem BU:aO CF A2 none Tryz.f16 er:=by intro x;kernel_rfl
theorem ji:aq tpr 16:=ak Tryz.func16 rfl (by decide)
theorem jk:aD tpr 16 er:=aG BU (.cons EM EG (.cons Q5 QA (.cons C0 CR (.cons Fc E9 (.nil _))))) aH Tryz.func16
end Go.Proofs.SeatU
end
