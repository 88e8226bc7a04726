/-
  Each function that the law reaches is as its plain model says. No condition.
-/
import Derived.Test.YtgmbmgfhpkoajacGreatDoorYv
set_option maxRecDepth 100000
noncomputable section
namespace Go.Proofs
abbrev tpr:=Tryz.prog
end Go.Proofs
namespace Go.Proofs.SeatA
open Go.Dn Go.Md Go.Proofs
theorem Hu:Tryz.prog.follows .mixedOrders=true:=by kernel_rfl
def Ge (X:Cx) (anns:List (Nat×Ann)) (ar:Option Ty) (fn:Func) (sp:ay):Prop:=∀ x,FC X anns ar fn sp x=sp.m x
theorem Ah {X:Cx} {anns:List (Nat×Ann)} {ar:Option Ty} {fn:Func} {sp:ay} (h:Ge X anns ar fn sp) (hX:bP X) (hm:X.P.follows .mixedOrders=true) {f:FuncId} (hf:X.P.funcs[f]? =some fn):gY X.P f sp:=LU hX hm sp anns ar hf fun x _ e=>(h x).trans e
def FB (f:Nat) (sp:ay):Prop:=gY tpr f sp/\eP tpr f
theorem fbk (X:Cx) (anns:List (Nat×Ann)) (ar:Option Ty) {fn:Func} {sp:ay} {f:Nat} (h:Ge X anns ar fn sp) (hX:bP X) (hf:tpr.funcs[f]? =some fn) (e:X.P=tpr:=by exact rfl) (h1:fn.body.isSome=true:=by exact rfl) (h2:fn.name≠ "runtime.NumGoroutine" :=by decide):FB f sp:=by
 have k:=Ah h hX (by rw[e];exact Hu) (by rw[e];exact hf)
 rw[e] at k
 exact⟨k,lC hf h1 h2⟩
theorem cz {f:Nat} {sp:ay} {r:List (Nat×ay)} {ks:List (Nat×sI)} (h:FB f sp) (t:bP ⟨tpr,r,ks⟩):bP ⟨tpr,(f,sp)::r,ks⟩:= .cons h.1 h.2 t
def PS:List CK:=[.val .bool,.val .bool,.val .bool,.val .bool,.val .bool,.val .bool]
def GC:List CK:=[.val tI,.val .str,.val tI,.val tI,.val .str,.val tI,.val tI,.val tI]
def GD:List CK:=[.val tI,.val tI,.val tI,.val tI,.val tI,.val .str,.val tI,.val tI,.val .str,.val tI,.val tI,.val tI,.val tI]
def Gk:List (Nat×Ann):=[(3,⟨[(3,.mapR 6),(8,.val (.slice aT)),(9,.val tI),(10,.val tI)],[],[.mapC 6 tI aT],br _⟩),
 (200003,⟨[(3,.mapR 6)],[],[.mapC 6 tI aT],fun _=>0⟩)]
def B9:ay:=⟨[.val aY],[.map tI aT],fun x=>fI x.1⟩
noncomputable def Kt:Cx:=⟨tpr,[],[]⟩
theorem IC:Ge Kt Gk none Tryz.f11 B9:=by intro x;kernel_rfl
theorem KK:gY tpr 11 B9:=Ah IC (.nil _) Hu Tryz.func11
def Er:List (Nat×Ann):=[(1,⟨[(1,.ref 1 0),(2,.ref 2 0)],[(1,[.val tI,.val tI]),(2,[.val tI,.val tI])],[],br _⟩),
 (200001,⟨[(1,.ref 1 0),(2,.ref 2 0)],[(1,[.val tI,.val tI]),(2,[.val tI,.val tI])],[],fun _=>0⟩),
 (300001,⟨[(11,.val .bool)],[],[],fun _=>0⟩)]
def tv:ay:=⟨[.val aA],[.val aA],fun x=>lY x.1⟩
noncomputable def GH:Cx:=⟨tpr,[],[]⟩
theorem yB:FB 38 tv:=fbk GH Er none (by intro x;kernel_rfl) (.nil _) Tryz.func38
def yV:ay:=⟨[.val aA,.val aA],[.val .bool],fun x=>mg x.1 x.2.1⟩
noncomputable def GJ:Cx:=⟨tpr,[(38,tv)],[]⟩
theorem G5:FB 28 yV:=fbk GJ [] none (by intro x;kernel_rfl) (cz yB (.nil _)) Tryz.func28
def Cs:List (Nat×Ann):=[(100006,⟨[(3,.val .bool),(5,.ref 5 0),(6,.ref 6 0),(9,.ref 9 0),(11,.own 52 ax)],[(5,GC),(6,GC),(9,GD)],[],fun _=>0⟩),
 (100010,⟨[(3,.val .bool),(5,.ref 5 0),(6,.ref 6 0),(9,.ref 9 0),(11,.own 52 ax)],[(5,GC),(6,GC),(9,GD)],[],fun _=>0⟩),
 (300009,⟨[(60,.val .bool)],[],[],fun _=>0⟩),
 (300013,⟨[(77,.val .bool)],[],[],fun _=>0⟩)]
def yc:ay:=⟨[.val aT,.val aT,.val .bool,.val .bool,.val ax],[.row 52 ax],fun x=>gC x.1 x.2.1 x.2.2.1 x.2.2.2.1 x.2.2.2.2.1⟩
noncomputable def Fv:Cx:=⟨tpr,[(28,yV)],[]⟩
theorem EA:Ge Fv Cs none Tryz.f14 yc:=by intro x;kernel_rfl
theorem FW:gY tpr 14 yc:=Ah EA (cz G5 (.nil _)) Hu Tryz.func14
def rq:ay:=⟨[.val .str],[.val .bool],fun x=>eU x.1⟩
noncomputable def Kq:Cx:=⟨tpr,[(42,tG)],[]⟩
theorem vV:FB 21 rq:=fbk Kq [] none (by intro x;kernel_rfl) (.cons Hy Hg (.nil _)) Tryz.func21
def gW:ay:=⟨[.val tI,.val tI,.val tI],[.val .bool],fun x=>dB x.1 x.2.1 x.2.2.1⟩
noncomputable def Ix:Cx:=⟨tpr,[],[]⟩
theorem ju:FB 23 gW:=fbk Ix [] none (by intro x;kernel_rfl) (.nil _) Tryz.func23
def mu:ay:=⟨[.val tI],[.val .bool],fun x=>kO x.1⟩
noncomputable def LF:Cx:=⟨tpr,[(23,gW)],[]⟩
theorem oI:FB 22 mu:=fbk LF [] none (by intro x;kernel_rfl) (cz ju (.nil _)) Tryz.func22
def lP:ay:=⟨[.val aA],[.val tI],fun x=>fm x.1⟩
noncomputable def zl:Cx:=⟨tpr,[(23,gW)],[]⟩
theorem qu:FB 78 lP:=fbk zl [] none (by intro x;kernel_rfl) (cz ju (.nil _)) Tryz.func78
def Fm:List (Nat×Ann):=[(3,⟨[(3,.val tI),(4,.val tI),(5,.val tI)],[],[],br _⟩),
 (200003,⟨[(3,.val tI)],[],[],fun _=>0⟩)]
def uE:ay:=⟨[.val tI],[.val tI],fun x=>uS x.1⟩
noncomputable def Iy:Cx:=⟨tpr,[],[]⟩
theorem An:FB 96 uE:=fbk Iy Fm none (by intro x;kernel_rfl) (.nil _) Tryz.func96
def tC:ay:=⟨[.val aA,.val tI,.val tI],[.val .bool],fun x=>mh x.1 x.2.1 x.2.2.1⟩
noncomputable def GL:Cx:=⟨tpr,[(96,uE)],[]⟩
theorem yD:FB 79 tC:=fbk GL [] none (by intro x;kernel_rfl) (cz An (.nil _)) Tryz.func79
def lQ:ay:=⟨[.val aA,.val .bool],[.val tI],fun x=>gO x.1 x.2.1⟩
noncomputable def zm:Cx:=⟨tpr,[(78,lP),(79,tC)],[]⟩
theorem qz:FB 43 lQ:=fbk zm [] none (by intro x;kernel_rfl) (cz qu (cz yD (.nil _))) Tryz.func43
def nV:ay:=⟨[.val aA],[.val tI],fun x=>jD x.1⟩
noncomputable def Ch:Cx:=⟨tpr,[(78,lP),(79,tC)],[]⟩
theorem tP:FB 44 nV:=fbk Ch [] none (by intro x;kernel_rfl) (cz qu (cz yD (.nil _))) Tryz.func44
def AR:List (Nat×Ann):=[(300004,⟨[(17,.val .bool)],[],[],fun _=>0⟩)]
def vL:ay:=⟨[.val aY,.val tI],[.val tI],fun x=>ou x.1 x.2.1⟩
noncomputable def CP:Cx:=⟨tpr,[(21,rq),(23,gW),(43,lQ),(44,nV)],[]⟩
theorem C1:FB 24 vL:=fbk CP AR none (by intro x;kernel_rfl) (cz vV (cz ju (cz qz (cz tP (.nil _))))) Tryz.func24
def zW:List (Nat×Ann):=[(12,⟨[(1,.ref 1 0),(50,.val tI),(51,.val tI)],[(1,[.val .str,.val .str,.val .str,.val tI,.val tI,.val (.slice aT)])],[],br _⟩),
 (200012,⟨[],[],[],fun _=>0⟩)]
def nU:ay:=⟨[.val aY],[.val tI],fun x=>cV x.1⟩
noncomputable def Cg:Cx:=⟨tpr,[(21,rq),(22,mu),(23,gW),(24,vL)],[]⟩
theorem nS:FB 10 nU:=fbk Cg zW none (by intro x;kernel_rfl) (cz vV (cz oI (cz ju (cz C1 (.nil _))))) Tryz.func10
theorem Cl:gY tpr 10 nU:=nS.1
theorem Px:eP tpr 10:=nS.2
def pe:ay:=⟨[.val tI],[.val .bool],fun x=>kQ x.1⟩
noncomputable def CN:Cx:=⟨tpr,[],[]⟩
theorem vm:FB 48 pe:=fbk CN [] none (by intro x;kernel_rfl) (.nil _) Tryz.func48
def tw:ay:=⟨[.val tI],[.val MB],fun x=>oU x.1⟩
noncomputable def GK:Cx:=⟨tpr,[],[]⟩
theorem yC:FB 57 tw:=fbk GK [] none (by intro x;kernel_rfl) (.nil _) Tryz.func57
def AS:List (Nat×Ann):=[(100003,⟨[(1,.ref 1 0),(3,.ref 3 0)],[(1,GD),(3,PS)],[],fun _=>0⟩),
 (100007,⟨[(1,.ref 1 0),(3,.ref 3 0)],[(1,GD),(3,PS)],[],fun _=>0⟩),
 (300011,⟨[(30,.val .bool)],[],[],fun _=>0⟩),
 (300013,⟨[(39,.val .bool)],[],[],fun _=>0⟩),
 (300015,⟨[(58,.val .bool)],[],[],fun _=>0⟩),
 (300017,⟨[(66,.val .bool)],[],[],fun _=>0⟩)]
def vM:ay:=⟨[.val ax],[.val tI],fun x=>ov x.1⟩
noncomputable def CR:Cx:=⟨tpr,[(21,rq),(22,mu),(23,gW),(43,lQ),(44,nV),(57,tw)],[]⟩
theorem C2:FB 49 vM:=fbk CR AS none (by intro x;kernel_rfl) (cz vV (cz oI (cz ju (cz qz (cz tP (cz yC (.nil _))))))) Tryz.func49
def vJ:ay:=⟨[.val ax],[.val tI],fun x=>ot x.1⟩
noncomputable def CM:Cx:=⟨tpr,[(22,mu),(23,gW),(48,pe),(49,vM)],[]⟩
theorem CZ:FB 29 vJ:=fbk CM [] none (by intro x;kernel_rfl) (cz oI (cz ju (cz vm (cz C2 (.nil _))))) Tryz.func29
def yq:List (Nat×Ann):=[(2,⟨[(22,.rowR 22),(23,.val tI),(24,.val tI)],[],[.rowC 22 3 tI],br _⟩),
 (200002,⟨[],[],[],fun _=>0⟩)]
def sE:ay:=⟨[.val ax,.val ax],[.val tI],fun x=>iw x.1 x.2.1⟩
noncomputable def Ac:Cx:=⟨tpr,[],[]⟩
theorem Al:FB 30 sE:=fbk Ac yq none (by intro x;kernel_rfl) (.nil _) Tryz.func30
def zV:List (Nat×Ann):=[(5,⟨[(0,.val (.slice ax)),(3,.ref 3 0),(11,.val (.slice ax)),(12,.val tI),(13,.val tI)],[(3,[.val tI,.val tI,.val tI])],[],br _⟩),
 (200005,⟨[],[],[],fun _=>0⟩),
 (300010,⟨[(34,.val .bool)],[],[],fun _=>0⟩)]
def jU:ay:=⟨[.val (.slice ax)],[.val tI],fun x=>cU x.1⟩
noncomputable def Cf:Cx:=⟨tpr,[(29,vJ),(30,sE)],[]⟩
theorem jO:FB 15 jU:=fbk Cf zV none (by intro x;kernel_rfl) (cz CZ (cz Al (.nil _))) Tryz.func15
theorem Ck:gY tpr 15 jU:=jO.1
theorem Pw:eP tpr 15:=jO.2
end Go.Proofs.SeatA
end
