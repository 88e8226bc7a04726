/-
  Each function that the law reaches is as its plain model says. No condition.
-/
import Derived.Test.YtbjhpnieokphbaaGreatDoorYv
set_option linter.all false
set_option maxRecDepth 100000
noncomputable section
namespace Go.Proofs
noncomputable abbrev tpr:=Tryz.prog
end Go.Proofs
namespace Go.Proofs.SeatU
open Go.Dn Go.Md Go.Proofs
theorem aK:Tryz.prog.follows .mixedOrders=true:=by kernel_rfl
def aV (X:Cx) (anns:List (Nat×Ann)) (ar:Option Ty) (fn:Func) (sp:aC):Prop:=∀ x,Ly X anns ar fn sp x=sp.m x
theorem aI {X:Cx} {anns:List (Nat×Ann)} {ar:Option Ty} {fn:Func} {sp:aC} (h:aV X anns ar fn sp) (hX:bU X) (hm:X.P.follows .mixedOrders=true) {f:FuncId} (hf:X.P.funcs[f]? =some fn):aF X.P f sp:=SJ hX hm sp anns ar hf fun x _ e=>(h x).trans e
def xd:List CK:=[.val .bool,.own 109 (.int .u32)]
def mX:List CK:=[.val .bool,.val (.slice (.int .u32))]
def nr:aC:=⟨[.val .str],[.val .bool],fun x=>dF x.1⟩
noncomputable def Ku:Cx:=⟨tpr,[(47,sZ)],[]⟩
theorem Im:aV Ku [] none Tryz.f20 nr:=by intro x;kernel_rfl
theorem vO:av tpr 20:=aq Tryz.func20 rfl (by decide)
theorem vS:aF tpr 20 nr:=aI Im (.cons Ho GS (.nil _)) aK Tryz.func20
def iO:aC:=⟨[.val tI,.val tI,.val tI],[.val .bool],fun x=>iM x.1 x.2.1 x.2.2.1⟩
noncomputable def Ia:Cx:=⟨tpr,[],[]⟩
theorem Gu:aV Ia [] none Tryz.f32 iO:=by intro x;kernel_rfl
theorem pn:av tpr 32:=aq Tryz.func32 rfl (by decide)
theorem pz:aF tpr 32 iO:=aI Gu (.nil _) aK Tryz.func32
def kP:aC:=⟨[.val bS],[.val tI],fun x=>fS x.1⟩
noncomputable def yZ:Cx:=⟨tpr,[(32,iO)],[]⟩
theorem yu:aV yZ [] none Tryz.f53 kP:=by intro x;kernel_rfl
theorem zh:av tpr 53:=aq Tryz.func53 rfl (by decide)
theorem zl:aF tpr 53 kP:=aI yu (.cons pz pn (.nil _)) aK Tryz.func53
def E4:List (Nat×Ann):=[(3,⟨[(3,.val tI),(4,.val tI),(5,.val tI)],[],[],bz _⟩),
 (200003,⟨[(3,.val tI)],[],[],fun _=>0⟩)]
def ua:aC:=⟨[.val tI],[.val tI],fun x=>zm x.1⟩
noncomputable def Ib:Cx:=⟨tpr,[],[]⟩
theorem Gv:aV Ib E4 none Tryz.f103 ua:=by intro x;kernel_rfl
theorem Iz:av tpr 103:=aq Tryz.func103 rfl (by decide)
theorem IX:aF tpr 103 ua:=aI Gv (.nil _) aK Tryz.func103
def sX:aC:=⟨[.val bS,.val tI,.val tI],[.val .bool],fun x=>sK x.1 x.2.1 x.2.2.1⟩
noncomputable def Gp:Cx:=⟨tpr,[(103,ua)],[]⟩
theorem Fp:aV Gp [] none Tryz.f54 sX:=by intro x;kernel_rfl
theorem GQ:av tpr 54:=aq Tryz.func54 rfl (by decide)
theorem Hj:aF tpr 54 sX:=aI Fp (.cons IX Iz (.nil _)) aK Tryz.func54
def eA:aC:=⟨[.val bS,.val .bool],[.val tI],fun x=>cc x.1 x.2.1⟩
noncomputable def y7:Cx:=⟨tpr,[(53,kP),(54,sX)],[]⟩
theorem yw:aV y7 [] none Tryz.f26 eA:=by intro x;kernel_rfl
theorem kH:av tpr 26:=aq Tryz.func26 rfl (by decide)
theorem kK:aF tpr 26 eA:=aI yw (.cons zl zh (.cons Hj GQ (.nil _))) aK Tryz.func26
def yX:List (Nat×Ann):=[(3,⟨[(3,.mapR 8),(9,.val (.slice aR)),(10,.val tI),(11,.val tI)],[],[.mapC 8 aB .bool],bz _⟩),
 (200003,⟨[],[],[],fun _=>0⟩)]
def mH:aC:=⟨[.val (.slice aR)],[.val tI],fun x=>kX x.1⟩
noncomputable def AB:Cx:=⟨tpr,[(20,nr),(26,eA)],[]⟩
theorem zV:aV AB yX none Tryz.f10 mH:=by intro x;kernel_rfl
theorem AT:av tpr 10:=aq Tryz.func10 rfl (by decide)
theorem A8:aF tpr 10 mH:=aI zV (.cons vS vO (.cons kK kH (.nil _))) aK Tryz.func10
def BX:List (Nat×Ann):=[(300001,⟨[(3,.val .bool)],[],[],fun _=>0⟩)]
def qb:aC:=⟨[.val aR,.val (.ptr aR)],[.val .bool],fun x=>pH x.1 x.2.1⟩
noncomputable def Ee:Cx:=⟨tpr,[],[]⟩
theorem CS:aV Ee BX none Tryz.f28 qb:=by intro x;kernel_rfl
theorem Ev:av tpr 28:=aq Tryz.func28 rfl (by decide)
theorem EE:aF tpr 28 qb:=aI CS (.nil _) aK Tryz.func28
def si:List (Nat×Ann):=[(2,⟨[(0,.val (.slice aR)),(1,.val (.clo 28 (.ptr aR))),(7,.val tI),(8,.val tI)],[],[],bz _⟩),
 (200002,⟨[],[],[],fun _=>0⟩)]
def fL:aC:=⟨[.val (.slice aR),.val (.clo 28 (.ptr aR))],[.val tI],fun x=>dn x.1 x.2.1⟩
noncomputable def s9:Cx:=⟨tpr,[(28,qb)],[]⟩
theorem sC:aV s9 si none Tryz.f27 fL:=by intro x;kernel_rfl
theorem tc:av tpr 27:=aq Tryz.func27 rfl (by decide)
theorem td:aF tpr 27 fL:=aI sC (.cons EE Ev (.nil _)) aK Tryz.func27
def Cq:List (Nat×Ann):=[(1,⟨[(0,.val (.slice (.int .u32)))],[],[],bz _⟩),
 (200001,⟨[(0,.val (.slice (.int .u32)))],[],[],fun _=>0⟩)]
def jb:aC:=⟨[.val (.slice (.int .u32))],[.val (.slice (.int .u32))],fun x=>jM x.1⟩
noncomputable def Fl:Cx:=⟨tpr,[],[]⟩
theorem Ep:aV Fl Cq none Tryz.f116 jb:=by intro x;kernel_rfl
theorem ry:av tpr 116:=aq Tryz.func116 rfl (by decide)
theorem rz:aF tpr 116 jb:=aI Ep (.nil _) aK Tryz.func116
def gW:aC:=⟨[.val .bool,.val (.slice (.int .u32))],[.val aH],fun x=>eG x.1 x.2.1⟩
noncomputable def Kz:Cx:=⟨tpr,[(116,jb)],[]⟩
theorem Is:aV Kz [] none Tryz.f75 gW:=by intro x;kernel_rfl
theorem mZ:av tpr 75:=aq Tryz.func75 rfl (by decide)
theorem nh:aF tpr 75 gW:=aI Is (.cons rz ry (.nil _)) aK Tryz.func75
def Ko:List (Nat×Ann):=[(100003,⟨[(0,.val tI),(2,.ref 2 0),(3,.val (.int .u64))],[(2,xd)],[],fun _=>0⟩)]
def kQ:aC:=⟨[.val tI],[.val aH],fun x=>kR x.1⟩
noncomputable def MX:Cx:=⟨tpr,[(75,gW)],[]⟩
theorem LF:aV MX Ko none Tryz.f37 kQ:=by intro x;kernel_rfl
theorem qu:av tpr 37:=aq Tryz.func37 rfl (by decide)
theorem qw:aF tpr 37 kQ:=aI LF (.cons nh mZ (.nil _)) aK Tryz.func37
def Ay:List (Nat×Ann):=[(3,⟨[(2,.ref 2 0),(3,.ref 3 0),(4,.ref 4 0),(5,.rowR 18),(20,.val (.slice (.int .u32))),(21,.val tI),(22,.val tI)],[(2,mX),(3,mX),(4,xd)],[.rowC 18 109 (.int .u32)],bz _⟩),
 (7,⟨[(2,.ref 2 0),(3,.ref 3 0),(4,.ref 4 0),(5,.rowR 18),(6,.val tI),(7,.val (.int .u32)),(8,.val (.int .u64)),(20,.val (.slice (.int .u32))),(21,.val tI),(22,.val tI),(28,.val (.slice (.int .u32))),(29,.val tI),(30,.val tI)],[(2,mX),(3,mX),(4,xd)],[.rowC 18 109 (.int .u32)],bz _⟩),
 (200003,⟨[(2,.ref 2 0),(3,.ref 3 0),(4,.ref 4 0),(5,.rowR 18)],[(2,mX),(3,mX),(4,xd)],[.rowC 18 109 (.int .u32)],fun _=>0⟩),
 (200007,⟨[(2,.ref 2 0),(3,.ref 3 0),(4,.ref 4 0),(5,.rowR 18),(6,.val tI),(8,.val (.int .u64)),(20,.val (.slice (.int .u32))),(21,.val tI),(22,.val tI)],[(2,mX),(3,mX),(4,xd)],[.rowC 18 109 (.int .u32)],fun _=>0⟩)]
def ku:aC:=⟨[.val aH,.val aH],[.val aH],fun x=>kz x.1 x.2.1⟩
noncomputable def CJ:Cx:=⟨tpr,[(75,gW)],[]⟩
theorem B6:aV CJ Ay none Tryz.f56 ku:=by intro x;kernel_rfl
theorem ve:av tpr 56:=aq Tryz.func56 rfl (by decide)
theorem vm:aF tpr 56 ku:=aI B6 (.cons nh mZ (.nil _)) aK Tryz.func56
def E8:List (Nat×Ann):=[(3,⟨[(2,.ref 2 0),(3,.ref 3 0),(5,.val tI),(6,.val tI)],[(2,xd),(3,mX)],[],bz _⟩),
 (200003,⟨[(2,.ref 2 0),(3,.ref 3 0)],[(2,xd),(3,mX)],[],fun _=>0⟩)]
def uh:aC:=⟨[.val tI],[.val aH],fun x=>uT x.1⟩
noncomputable def Ij:Cx:=⟨tpr,[(37,kQ),(56,ku)],[]⟩
theorem GC:aV Ij E8 none Tryz.f57 uh:=by intro x;kernel_rfl
theorem IE:av tpr 57:=aq Tryz.func57 rfl (by decide)
theorem I3:aF tpr 57 uh:=aI GC (.cons qw qu (.cons vm ve (.nil _))) aK Tryz.func57
def mE:aC:=⟨[.val bS,.val tI],[.val aH],fun x=>eD x.1 x.2.1⟩
noncomputable def Fe:Cx:=⟨tpr,[(37,kQ),(56,ku),(57,uh)],[]⟩
theorem Ei:aV Fe [] none Tryz.f30 mE:=by intro x;kernel_rfl
theorem xu:av tpr 30:=aq Tryz.func30 rfl (by decide)
theorem xI:aF tpr 30 mE:=aI Ei (.cons qw qu (.cons vm ve (.cons I3 IE (.nil _)))) aK Tryz.func30
def Co:List (Nat×Ann):=[(5,⟨[(1,.val tI),(2,.ref 2 0),(6,.val (.int .u64)),(14,.val (.slice (.int .u32))),(15,.val tI),(16,.val tI)],[(2,mX)],[],bz _⟩),
 (200005,⟨[(1,.val tI),(2,.ref 2 0),(6,.val (.int .u64))],[(2,mX)],[],fun _=>0⟩)]
def mL:aC:=⟨[.val aH,.val tI],[.val tI,.val .bool],fun x=>nu x.1 x.2.1⟩
noncomputable def Fj:Cx:=⟨tpr,[],[]⟩
theorem En:aV Fj Co none Tryz.f31 mL:=by intro x;kernel_rfl
theorem xC:av tpr 31:=aq Tryz.func31 rfl (by decide)
theorem xN:aF tpr 31 mL:=aI En (.nil _) aK Tryz.func31
def gR:aC:=⟨[.val bS],[.val tI],fun x=>eY x.1⟩
noncomputable def zU:Cx:=⟨tpr,[(30,mE),(31,mL)],[]⟩
theorem zf:aV zU [] none Tryz.f13 gR:=by intro x;kernel_rfl
theorem rT:av tpr 13:=aq Tryz.func13 rfl (by decide)
theorem rZ:aF tpr 13 gR:=aI zf (.cons xI xu (.cons xN xC (.nil _))) aK Tryz.func13
def D7:List (Nat×Ann):=[(2,⟨[(1,.val (.slice aR)),(4,.val tI),(5,.own 3 tI),(11,.val (.slice aR)),(12,.val tI),(13,.val tI)],[],[],bz _⟩),
 (200002,⟨[(4,.val tI),(5,.own 3 tI)],[],[],fun _=>0⟩)]
def sY:aC:=⟨[.val (.slice aR),.val (.slice aR)],[.val tI,.row 3 tI,.val tI],fun x=>oD x.1 x.2.1⟩
noncomputable def Gq:Cx:=⟨tpr,[(13,gR),(27,fL)],[]⟩
theorem Fq:aV Gq D7 none Tryz.f11 sY:=by intro x;kernel_rfl
theorem GR:av tpr 11:=aq Tryz.func11 rfl (by decide)
theorem Hl:aF tpr 11 sY:=aI Fq (.cons rZ rT (.cons td tc (.nil _))) aK Tryz.func11
def E3:List (Nat×Ann):=[(2,⟨[(0,.val .str),(1,.val (.int .u8)),(2,.val (.int .u8)),(9,.val tI),(10,.val tI)],[],[],bz _⟩),
 (200002,⟨[],[],[],fun _=>0⟩)]
def tZ:aC:=⟨[.val .str,.val (.int .u8),.val (.int .u8)],[.val .bool],fun x=>zi x.1 x.2.1 x.2.2.1⟩
noncomputable def H9:Cx:=⟨tpr,[],[]⟩
theorem Gt:aV H9 E3 none Tryz.f104 tZ:=by intro x;kernel_rfl
theorem Iy:av tpr 104:=aq Tryz.func104 rfl (by decide)
theorem IW:aF tpr 104 tZ:=aI Gt (.nil _) aK Tryz.func104
def nZ:aC:=⟨[.val .str],[.val .bool],fun x=>ov x.1⟩
noncomputable def Gn:Cx:=⟨tpr,[(104,tZ)],[]⟩
theorem Fo:aV Gn [] none Tryz.f55 nZ:=by intro x;kernel_rfl
theorem yJ:av tpr 55:=aq Tryz.func55 rfl (by decide)
theorem yQ:aF tpr 55 nZ:=aI Fo (.cons IW Iy (.nil _)) aK Tryz.func55
def E6:List (Nat×Ann):=[(5,⟨[(4,.val tI),(15,.val tI),(16,.val tI)],[],[],bz _⟩),
 (200005,⟨[(4,.val tI)],[],[],fun _=>0⟩)]
def pP:aC:=⟨[.val .str],[.val tI,.val .bool],fun x=>qz x.1⟩
noncomputable def Ie:Cx:=⟨tpr,[(55,nZ)],[]⟩
theorem Gy:aV Ie E6 none Tryz.f29 pP:=by intro x;kernel_rfl
theorem Ab:av tpr 29:=aq Tryz.func29 rfl (by decide)
theorem Ah:aF tpr 29 pP:=aI Gy (.cons yQ yJ (.nil _)) aK Tryz.func29
def mF:aC:=⟨[.val tI],[.val .bool],fun x=>jG x.1⟩
noncomputable def Ff:Cx:=⟨tpr,[(32,iO)],[]⟩
theorem Ej:aV Ff [] none Tryz.f59 mF:=by intro x;kernel_rfl
theorem xz:av tpr 59:=aq Tryz.func59 rfl (by decide)
theorem xK:aF tpr 59 mF:=aI Ej (.cons pz pn (.nil _)) aK Tryz.func59
def p4:aC:=⟨[.val tI],[.val (.slice tI)],fun x=>tj x.1⟩
noncomputable def D9:Cx:=⟨tpr,[],[]⟩
theorem CN:aV D9 [] none Tryz.f109 p4:=by intro x;kernel_rfl
theorem Er:av tpr 109:=aq Tryz.func109 rfl (by decide)
theorem EA:aF tpr 109 p4:=aI CN (.nil _) aK Tryz.func109
def zH:List (Nat×Ann):=[(2,⟨[(0,.val (.slice tI)),(1,.val tI),(7,.val tI),(8,.val tI)],[],[],bz _⟩),
 (200002,⟨[],[],[],fun _=>0⟩)]
def nQ:aC:=⟨[.val (.slice tI),.val tI],[.val tI],fun x=>rE x.1 x.2.1⟩
noncomputable def B0:Cx:=⟨tpr,[],[]⟩
theorem AI:aV B0 zH none Tryz.f126 nQ:=by intro x;kernel_rfl
theorem B9:av tpr 126:=aq Tryz.func126 rfl (by decide)
theorem Cc:aF tpr 126 nQ:=aI AI (.nil _) aK Tryz.func126
def gv:aC:=⟨[.val (.slice tI),.val tI],[.val .bool],fun x=>fU x.1 x.2.1⟩
noncomputable def y8:Cx:=⟨tpr,[(126,nQ)],[]⟩
theorem yx:aV y8 [] none Tryz.f96 gv:=by intro x;kernel_rfl
theorem qs:av tpr 96:=aq Tryz.func96 rfl (by decide)
theorem qv:aF tpr 96 gv:=aI yx (.cons Cc B9 (.nil _)) aK Tryz.func96
def D6:List (Nat×Ann):=[(3,⟨[(0,.val .str),(3,.val tI),(7,.val tI),(8,.val tI)],[],[],bz _⟩),
 (200003,⟨[(3,.val tI)],[],[],fun _=>0⟩)]
def sW:aC:=⟨[.val .str],[.val .bool],fun x=>w9 x.1⟩
noncomputable def Gm:Cx:=⟨tpr,[],[]⟩
theorem Fm:aV Gm D6 none Tryz.f110 sW:=by intro x;kernel_rfl
theorem GO:av tpr 110:=aq Tryz.func110 rfl (by decide)
theorem Hh:aF tpr 110 sW:=aI Fm (.nil _) aK Tryz.func110
def ko:aC:=⟨[.val tI,.val .str],[.val .bool],fun x=>gH x.1 x.2.1⟩
noncomputable def CE:Cx:=⟨tpr,[(55,nZ),(63,rF),(96,gv),(108,yU),(109,p4),(110,sW)],[]⟩
theorem B2:aV CE [] none Tryz.f64 ko:=by intro x;kernel_rfl
theorem u7:av tpr 64:=aq Tryz.func64 rfl (by decide)
theorem vk:aF tpr 64 ko:=aI B2 (.cons yQ yJ (.cons xJ xw (.cons qv qs (.cons Hi GP (.cons EA Er (.cons Hh GO (.nil _))))))) aK Tryz.func64
end Go.Proofs.SeatU
end
