/-
  Each function that the law reaches is as its plain model says. No condition.
-/
import Derived.Test.YtekilbogbgmbbaaGreatDoorYv
set_option maxRecDepth 100000
noncomputable section
namespace Go.Proofs
abbrev tpr:=Tryz.prog
end Go.Proofs
namespace Go.Proofs.SeatA
open Go.Dn Go.Md Go.Proofs
theorem NX:Tryz.prog.follows .mixedOrders=true:=by kernel_rfl
def ME (X:Cx) (anns:List (Nat×Ann)) (ar:Option Ty) (fn:Func) (sp:av):Prop:=∀ x,LP X anns ar fn sp x=sp.m x
theorem Bn {X:Cx} {anns:List (Nat×Ann)} {ar:Option Ty} {fn:Func} {sp:av} (h:ME X anns ar fn sp) (hX:bY X) (hm:X.P.follows .mixedOrders=true) {f:FuncId} (hf:X.P.funcs[f]? =some fn):ig X.P f sp:=Tv hX hm sp anns ar hf fun x _ e=>(h x).trans e
def FB (f:Nat) (sp:av):Prop:=ig tpr f sp/\fe tpr f
theorem fbk (X:Cx) (anns:List (Nat×Ann)) (ar:Option Ty) {fn:Func} {sp:av} {f:Nat} (h:ME X anns ar fn sp) (hX:bY X) (hf:tpr.funcs[f]? =some fn) (e:X.P=tpr:=by exact rfl) (h1:fn.body.isSome=true:=by exact rfl) (h2:fn.name≠ "runtime.NumGoroutine" :=by decide):FB f sp:=by
 have k:=Bn h hX (by rw[e];exact NX) (by rw[e];exact hf)
 rw[e] at k
 exact⟨k,jW hf h1 h2⟩
theorem cz {f:Nat} {sp:av} {r:List (Nat×av)} {ks:List (Nat×tg)} (h:FB f sp) (t:bY ⟨tpr,r,ks⟩):bY ⟨tpr,(f,sp)::r,ks⟩:= .cons h.1 h.2 t
def Yp:List CK:=[.val .bool,.val .bool,.val .bool,.val .bool,.val .bool,.val .bool]
def MY:List CK:=[.val tI,.val .str,.val tI,.val tI,.val .str,.val tI,.val tI,.val tI]
def MZ:List CK:=[.val tI,.val tI,.val tI,.val tI,.val tI,.val .str,.val tI,.val tI,.val .str,.val tI,.val tI,.val tI,.val tI]
def MJ:List (Nat×Ann):=[(3,⟨[(3,.mapR 6),(8,.val (.slice aJ)),(9,.val tI),(10,.val tI)],[],[.mapC 6 tI aJ],bg _⟩),
 (200003,⟨[(3,.mapR 6)],[],[.mapC 6 tI aJ],fun _=>0⟩)]
def GS:av:=⟨[.val aH],[.map tI aJ],fun x=>gF x.1⟩
noncomputable def Ru:Cx:=⟨tpr,[],[]⟩
theorem Pe:ME Ru MJ none Tryz.f15 GS:=by intro x;kernel_rfl
theorem RS:ig tpr 15 GS:=Bn Pe (.nil _) NX Tryz.func15
def J8:List (Nat×Ann):=[(1,⟨[(1,.ref 1 0),(2,.ref 2 0)],[(1,[.val tI,.val tI]),(2,[.val tI,.val tI])],[],bg _⟩),
 (200001,⟨[(1,.ref 1 0),(2,.ref 2 0)],[(1,[.val tI,.val tI]),(2,[.val tI,.val tI])],[],fun _=>0⟩),
 (300001,⟨[(11,.val .bool)],[],[],fun _=>0⟩)]
def w9:av:=⟨[.val au],[.val au],fun x=>nT x.1⟩
noncomputable def M7:Cx:=⟨tpr,[],[]⟩
theorem CA:FB 58 w9:=fbk M7 J8 none (by intro x;kernel_rfl) (.nil _) Tryz.func58
def C6:av:=⟨[.val au,.val au],[.val .bool],fun x=>om x.1 x.2.1⟩
noncomputable def M9:Cx:=⟨tpr,[(58,w9)],[]⟩
theorem Nv:FB 44 C6:=fbk M9 [] none (by intro x;kernel_rfl) (cz CA (.nil _)) Tryz.func44
def Hv:List (Nat×Ann):=[(100006,⟨[(3,.val .bool),(5,.ref 5 0),(6,.ref 6 0),(9,.ref 9 0),(11,.own 33 aq)],[(5,MY),(6,MY),(9,MZ)],[],fun _=>0⟩),
 (100010,⟨[(3,.val .bool),(5,.ref 5 0),(6,.ref 6 0),(9,.ref 9 0),(11,.own 33 aq)],[(5,MY),(6,MY),(9,MZ)],[],fun _=>0⟩),
 (300009,⟨[(60,.val .bool)],[],[],fun _=>0⟩),
 (300013,⟨[(77,.val .bool)],[],[],fun _=>0⟩)]
def Cc:av:=⟨[.val aJ,.val aJ,.val .bool,.val .bool,.val aq],[.row 33 aq],fun x=>iM x.1 x.2.1 x.2.2.1 x.2.2.2.1 x.2.2.2.2.1⟩
noncomputable def LG:Cx:=⟨tpr,[(44,C6)],[]⟩
theorem Kn:ME LG Hv none Tryz.f18 Cc:=by intro x;kernel_rfl
theorem Mi:ig tpr 18 Cc:=Bn Kn (cz Nv (.nil _)) NX Tryz.func18
def uJ:av:=⟨[.val .str],[.val .bool],fun x=>eP x.1⟩
noncomputable def Rr:Cx:=⟨tpr,[(68,xk)],[]⟩
theorem zS:FB 38 uJ:=fbk Rr [] none (by intro x;kernel_rfl) (.cons NY NF (.nil _)) Tryz.func38
def gY:av:=⟨[.val tI,.val tI,.val tI],[.val .bool],fun x=>dR x.1 x.2.1 x.2.2.1⟩
noncomputable def OZ:Cx:=⟨tpr,[],[]⟩
theorem iZ:FB 32 gY:=fbk OZ [] none (by intro x;kernel_rfl) (.nil _) Tryz.func32
def oG:av:=⟨[.val tI],[.val .bool],fun x=>mL x.1⟩
noncomputable def SX:Cx:=⟨tpr,[(32,gY)],[]⟩
theorem q9:FB 39 oG:=fbk SX [] none (by intro x;kernel_rfl) (cz iZ (.nil _)) Tryz.func39
def nB:av:=⟨[.val au],[.val tI],fun x=>gj x.1⟩
noncomputable def Dq:Cx:=⟨tpr,[(32,gY)],[]⟩
theorem tH:FB 118 nB:=fbk Dq [] none (by intro x;kernel_rfl) (cz iZ (.nil _)) Tryz.func118
def Lt:List (Nat×Ann):=[(3,⟨[(3,.val tI),(4,.val tI),(5,.val tI)],[],[],bg _⟩),
 (200003,⟨[(3,.val tI)],[],[],fun _=>0⟩)]
def yc:av:=⟨[.val tI],[.val tI],fun x=>yA x.1⟩
noncomputable def O6:Cx:=⟨tpr,[],[]⟩
theorem EB:FB 94 yc:=fbk O6 Lt none (by intro x;kernel_rfl) (.nil _) Tryz.func94
def xd:av:=⟨[.val au,.val tI,.val tI],[.val .bool],fun x=>oo x.1 x.2.1 x.2.2.1⟩
noncomputable def Nb:Cx:=⟨tpr,[(94,yc)],[]⟩
theorem CC:FB 119 xd:=fbk Nb [] none (by intro x;kernel_rfl) (cz EB (.nil _)) Tryz.func119
def nC:av:=⟨[.val au,.val .bool],[.val tI],fun x=>iV x.1 x.2.1⟩
noncomputable def Dr:Cx:=⟨tpr,[(118,nB),(119,xd)],[]⟩
theorem tN:FB 69 nC:=fbk Dr [] none (by intro x;kernel_rfl) (cz tH (cz CC (.nil _))) Tryz.func69
def qx:av:=⟨[.val au],[.val tI],fun x=>lz x.1⟩
noncomputable def Hh:Cx:=⟨tpr,[(118,nB),(119,xd)],[]⟩
theorem xA:FB 70 qx:=fbk Hh [] none (by intro x;kernel_rfl) (cz tH (cz CC (.nil _))) Tryz.func70
def Fh:List (Nat×Ann):=[(300004,⟨[(17,.val .bool)],[],[],fun _=>0⟩)]
def zF:av:=⟨[.val aH,.val tI],[.val tI],fun x=>qJ x.1 x.2.1⟩
noncomputable def HZ:Cx:=⟨tpr,[(32,gY),(38,uJ),(69,nC),(70,qx)],[]⟩
theorem Io:FB 40 zF:=fbk HZ Fh none (by intro x;kernel_rfl) (cz iZ (cz zS (cz tN (cz xA (.nil _))))) Tryz.func40
def Ee:List (Nat×Ann):=[(12,⟨[(1,.ref 1 0),(50,.val tI),(51,.val tI)],[(1,[.val .str,.val .str,.val .str,.val tI,.val tI,.val (.slice aJ)])],[],bg _⟩),
 (200012,⟨[],[],[],fun _=>0⟩)]
def qw:av:=⟨[.val aH],[.val tI],fun x=>dM x.1⟩
noncomputable def Hg:Cx:=⟨tpr,[(32,gY),(38,uJ),(39,oG),(40,zF)],[]⟩
theorem qq:FB 14 qw:=fbk Hg Ee none (by intro x;kernel_rfl) (cz iZ (cz zS (cz q9 (cz Io (.nil _))))) Tryz.func14
theorem Hp:ig tpr 14 qw:=qq.1
theorem X7:fe tpr 14:=qq.2
def rR:av:=⟨[.val tI],[.val .bool],fun x=>mN x.1⟩
noncomputable def HV:Cx:=⟨tpr,[],[]⟩
theorem zb:FB 74 rR:=fbk HV [] none (by intro x;kernel_rfl) (.nil _) Tryz.func74
def xb:av:=⟨[.val tI],[.val Uj],fun x=>rG x.1⟩
noncomputable def Na:Cx:=⟨tpr,[],[]⟩
theorem CB:FB 108 xb:=fbk Na [] none (by intro x;kernel_rfl) (.nil _) Tryz.func108
def Fi:List (Nat×Ann):=[(100003,⟨[(1,.ref 1 0),(3,.ref 3 0)],[(1,MZ),(3,Yp)],[],fun _=>0⟩),
 (100007,⟨[(1,.ref 1 0),(3,.ref 3 0)],[(1,MZ),(3,Yp)],[],fun _=>0⟩),
 (300011,⟨[(30,.val .bool)],[],[],fun _=>0⟩),
 (300013,⟨[(39,.val .bool)],[],[],fun _=>0⟩),
 (300015,⟨[(58,.val .bool)],[],[],fun _=>0⟩),
 (300017,⟨[(66,.val .bool)],[],[],fun _=>0⟩)]
def zG:av:=⟨[.val aq],[.val tI],fun x=>qK x.1⟩
noncomputable def H9:Cx:=⟨tpr,[(32,gY),(38,uJ),(39,oG),(69,nC),(70,qx),(108,xb)],[]⟩
theorem Ip:FB 75 zG:=fbk H9 Fi none (by intro x;kernel_rfl) (cz iZ (cz zS (cz q9 (cz tN (cz xA (cz CB (.nil _))))))) Tryz.func75
def zD:av:=⟨[.val aq],[.val tI],fun x=>qI x.1⟩
noncomputable def HU:Cx:=⟨tpr,[(32,gY),(39,oG),(74,rR),(75,zG)],[]⟩
theorem Il:FB 45 zD:=fbk HU [] none (by intro x;kernel_rfl) (cz iZ (cz q9 (cz zb (cz Ip (.nil _))))) Tryz.func45
def Co:List (Nat×Ann):=[(2,⟨[(22,.rowR 22),(23,.val tI),(24,.val tI)],[],[.rowC 22 3 tI],bg _⟩),
 (200002,⟨[],[],[],fun _=>0⟩)]
def vH:av:=⟨[.val aq,.val aq],[.val tI],fun x=>ju x.1 x.2.1⟩
noncomputable def Eo:Cx:=⟨tpr,[],[]⟩
theorem Ez:FB 46 vH:=fbk Eo Co none (by intro x;kernel_rfl) (.nil _) Tryz.func46
def Ed:List (Nat×Ann):=[(5,⟨[(0,.val (.slice aq)),(3,.ref 3 0),(11,.val (.slice aq)),(12,.val tI),(13,.val tI)],[(3,[.val tI,.val tI,.val tI])],[],bg _⟩),
 (200005,⟨[],[],[],fun _=>0⟩),
 (300010,⟨[(34,.val .bool)],[],[],fun _=>0⟩)]
def lX:av:=⟨[.val (.slice aq)],[.val tI],fun x=>dL x.1⟩
noncomputable def Hf:Cx:=⟨tpr,[(45,zD),(46,vH)],[]⟩
theorem lQ:FB 19 lX:=fbk Hf Ed none (by intro x;kernel_rfl) (cz Il (cz Ez (.nil _))) Tryz.func19
theorem Ho:ig tpr 19 lX:=lQ.1
theorem X6:fe tpr 19:=lQ.2
end Go.Proofs.SeatA
end
