/-
  Each function that the law reaches is as its plain model says. No condition.
-/
import Derived.Test.YtalfglakknbjkaaGreatDoorKn
import Derived.Test.YtalfglakknbjkaaGreatDoorKd
import Derived.Test.YtalfglakknbjkaaGreatDoorProg
import Derived.Shelf.Strings.SlTrimAscii
import Derived.Shelf.Small.Strs
set_option linter.all false
namespace Go.Proofs
open Go.Shelf
def Tryz.Zw:Go.Shelf.Ren:=⟨fun | 160=>94 | 232=>149 | 231=>148 | 227=>150 | 234=>152 | 233=>151 | 236=>154 | 235=>153 | 228=>198 | 271=>201 | 151=>200 | 197=>199 | 120=>226 | 152=>225 | 260=>224 | 137=>236 | 119=>237 | 224=>229 | 225=>228 | 217=>227 | 266=>238 | n=>n,fun | 9=>9 | 4=>4 | 3=>3 | 5=>5 | 117=>205 | 116=>204 | 0=>0 | 124=>208 | 21=>21 | 105=>243 | 46=>177 | 119=>275 | 139=>278 | 138=>277 | n=>n,fun | 3=>1 | 4=>2 | n=>n⟩
theorem Tryz.acU:Go.Proofs.Lays.n160 Tryz.prog Tryz.Zw:={
 mixed:=by kernel_rfl
 f119:=Tryz.func237.trans (congrArg some (by kernel_rfl))
 f120:=Tryz.func226.trans (congrArg some (by kernel_rfl))
 f137:=Tryz.func236.trans (congrArg some (by kernel_rfl))
 f151:=Tryz.func200.trans (congrArg some (by kernel_rfl))
 f152:=Tryz.func225.trans (congrArg some (by kernel_rfl))
 f160:=Tryz.func94.trans (congrArg some (by kernel_rfl))
 f197:=Tryz.func199.trans (congrArg some (by kernel_rfl))
 f217:=Tryz.func227.trans (congrArg some (by kernel_rfl))
 f224:=Tryz.func229.trans (congrArg some (by kernel_rfl))
 f225:=Tryz.func228.trans (congrArg some (by kernel_rfl))
 f227:=Tryz.func150.trans (congrArg some (by kernel_rfl))
 f228:=Tryz.func198.trans (congrArg some (by kernel_rfl))
 f231:=Tryz.func148.trans (congrArg some (by kernel_rfl))
 f232:=Tryz.func149.trans (congrArg some (by kernel_rfl))
 f233:=Tryz.func151.trans (congrArg some (by kernel_rfl))
 f234:=Tryz.func152.trans (congrArg some (by kernel_rfl))
 f235:=Tryz.func153.trans (congrArg some (by kernel_rfl))
 f236:=Tryz.func154.trans (congrArg some (by kernel_rfl))
 f260:=Tryz.func224.trans (congrArg some (by kernel_rfl))
 f266:=Tryz.func238.trans (congrArg some (by kernel_rfl))
 f271:=Tryz.func201.trans (congrArg some (by kernel_rfl))
 t0:=Tryz.underlying0
 a0:=Tryz.isAgg0
 z0:=Tryz.sizeOf0
 v0:=Tryz.zeroValue0
 t3:=Tryz.underlying3
 a3:=Tryz.isAgg3
 z3:=Tryz.sizeOf3
 v3:=Tryz.zeroValue3
 t4:=Tryz.underlying4
 a4:=Tryz.isAgg4
 z4:=Tryz.sizeOf4
 v4:=Tryz.zeroValue4
 t5:=Tryz.underlying5
 a5:=Tryz.isAgg5
 z5:=Tryz.sizeOf5
 v5:=Tryz.zeroValue5
 t9:=Tryz.underlying9
 a9:=Tryz.isAgg9
 z9:=Tryz.sizeOf9
 v9:=Tryz.zeroValue9
 t21:=Tryz.underlying21
 a21:=Tryz.isAgg21
 z21:=Tryz.sizeOf21
 v21:=Tryz.zeroValue21
 t46:=Tryz.underlying177
 a46:=Tryz.isAgg177
 z46:=Tryz.sizeOf177
 v46:=Tryz.zeroValue177
 t105:=Tryz.underlying243
 a105:=Tryz.isAgg243
 z105:=Tryz.sizeOf243
 v105:=Tryz.zeroValue243
 t116:=Tryz.underlying204
 a116:=Tryz.isAgg204
 z116:=Tryz.sizeOf204
 t117:=Tryz.underlying205
 a117:=Tryz.isAgg205
 z117:=Tryz.sizeOf205
 v117:=Tryz.zeroValue205
 t119:=Tryz.underlying275
 a119:=Tryz.isAgg275
 z119:=Tryz.sizeOf275
 t124:=Tryz.underlying208
 a124:=Tryz.isAgg208
 z124:=Tryz.sizeOf208
 v124:=Tryz.zeroValue208
 t138:=Tryz.underlying277
 a138:=Tryz.isAgg277
 z138:=Tryz.sizeOf277
 v138:=Tryz.zeroValue277
 t139:=Tryz.underlying278
 a139:=Tryz.isAgg278
 z139:=Tryz.sizeOf278
 v139:=Tryz.zeroValue278
 g3:=by kernel_rfl
 g4:=by kernel_rfl }
def Tryz.Y9:Go.Shelf.Ren:=⟨fun | 106=>185 | 213=>216 | 265=>233 | n=>n,fun | 9=>9 | 3=>3 | n=>n,fun | n=>n⟩
theorem Tryz.ac2:Go.Proofs.Lays.n106 Tryz.prog Tryz.Y9:={
 mixed:=by kernel_rfl
 f106:=Tryz.func185.trans (congrArg some (by kernel_rfl))
 f213:=Tryz.func216.trans (congrArg some (by kernel_rfl))
 f265:=Tryz.func233.trans (congrArg some (by kernel_rfl))
 t3:=Tryz.underlying3
 a3:=Tryz.isAgg3
 z3:=Tryz.sizeOf3
 v3:=Tryz.zeroValue3
 t9:=Tryz.underlying9
 a9:=Tryz.isAgg9
 z9:=Tryz.sizeOf9
 v9:=Tryz.zeroValue9 }
end Go.Proofs
namespace Go.Proofs.SeatS
open Go.Dn Go.Md Go.Proofs Go.RowKit Go.Shelf Go.Lib
def Cf:aK:=⟨[.val .str,.val .str],[.val .str],fun x=>nS x.1 x.2.1⟩
theorem T0:aB Tryz.prog 94:=ax (fn:=Tryz.f94) (by kernel_rfl) rfl (by decide)
theorem Tf:aN Tryz.prog 94 Cf:=by
 intro G w ow args x y hG how ha hm
 refine YW (P:=Tryz.prog) (f:=94) (m:=Cf.m) ?_ G w ow args x y hG how ha hm
 intro s c r w hm
 replace hm:nS s c=some (r,()):=hm
 unfold nS at hm
 cases hb:(decide (s.length≤9223372036854775807)&&(decide (c.length<4294967281)&&c.all fun b=>decide (b.toNat<128))) with
 | false=>rw [hb] at hm;cases hm
 | true=>
  rw [hb] at hm
  simp only [cond_true,Option.some.injEq,Prod.mk.injEq,and_true] at hm
  subst hm
  simp only [ad5,decide_eq_true_eq,aeI] at hb
  have:=Any.strings_Trim_laid Tryz.acU (by kernel_rfl) (bs s) (bs c) w (by simpa [bs,ByteArray.size] using hb.1) (by simpa [bs,ByteArray.size] using hb.2.1) (fun j b hj=>hb.2.2 b (List.mem_of_getElem? (by simpa [bs] using hj)))
  change Calls Tryz.prog 94 _ _ _ at this
  simpa [bs] using this
def xE:aK:=⟨[.val .str,.val .str],[.val tI],fun x=>strings_Compare x.1 x.2.1⟩
theorem OI:aB Tryz.prog 185:=ax (fn:=Tryz.f185) (by kernel_rfl) rfl (by decide)
theorem PF:aN Tryz.prog 185 xE:=by
 intro G w ow args x y hG how ha hm
 refine ab1 (P:=Tryz.prog) (f:=185) (t:=tI) (m:=xE.m) ?_ G w ow args x y hG how ha hm
 intro s c r w hm
 replace hm:strings_Compare s c=some (r,()):=hm
 unfold strings_Compare at hm
 obtain rfl:Lib.compareBytes s c=r:=congrArg (fun o=>(Option.getD o (0,())).1) hm
 have:=Any.strings_Compare Tryz.ac2 (bs s) (bs c) w
 refine ⟨.int .i64 (Lib.compareBytes s c),fun G=> ?_,this.mono ?_⟩
 ·rfl
 ·rintro e w' ⟨he,rfl⟩
  exact ⟨he,Below.refl _ _⟩
end Go.Proofs.SeatS
set_option maxRecDepth 100000
namespace Go.Proofs.SeatS
open Go.Dn Go.Md Go.Proofs
def zf:List CK:=[.own 3 tI,.own 3 tI,.own 78 (.slice tI),.own 3 tI,.own 3 tI,.own 3 tI,.own 4 .bool,.val tI,.val tI,.val tI,.val tI,.val tI]
def aau:List CK:=[.own 3 tI,.own 3 tI,.own 78 (.slice tI),.val (.slice tI),.own 3 tI,.own 3 tI,.own 4 .bool,.val tI,.val tI,.val tI,.val tI,.val tI]
def aao:List CK:=[.own 3 tI,.rowR 25,.own 78 (.slice tI),.own 3 tI,.own 3 tI,.own 3 tI,.rowR 29,.val tI,.val tI,.val tI,.val tI,.val tI]
def I2:List CK:=[.rowR 10250001,.rowR 10250002,.rowR 10250003,.rowR 10250004,.rowR 10250005,.rowR 10250006,.rowR 10250007,.val tI,.val tI,.val tI,.val tI,.val tI]
def yT:List CK:=[.val .bool,.own 223 (.int .u32)]
def iO:List CK:=[.val .bool,.own 3 tI]
def U9:List CK:=[.val .bool,.rowR 24]
def kH:List CK:=[.val .bool,.val (.slice (.int .u32))]
def l9:List CK:=[.val .bool,.val (.slice tI)]
def Uv:List CK:=[.val .bool,.val tI,.val tI,.val .str]
def acQ:List CK:=[.val .str,.val .str,.val tI,.val tI,.val tI,.val .bool,.val (.slice dS),.val (.slice dX),.val (.slice cQ),.own 135 aq,.rowR 19,.rowR 10250004,.own 186 cT,.rowR 10250006,.rowR 21,.rowR 10250008]
def WI:List CK:=[.val .str,.val .str,.val tI,.val tI,.val tI,.val .bool,.val (.slice dS),.val (.slice dX),.val (.slice cQ),.own 135 aq,.val (.slice aq),.own 135 aq,.own 186 cT,.own 135 aq,.own 4 .bool,.own 135 aq]
def Qk:List CK:=[.val .str,.val .str,.val tI,.val tI,.val tI,.val .bool,.val (.slice dS),.val (.slice dX),.val (.slice cQ),.rowR 10250002,.val (.slice aq),.rowR 10250004,.rowR 10250005,.rowR 10250006,.rowR 10250007,.rowR 10250008]
def WD:List CK:=[.val .str,.val .str,.val tI,.val tI,.val tI,.val .bool,.val (.slice dS),.val (.slice dX),.val (.slice cQ),.rowR 10250002,.val (.slice aq),.rowR 10250004,.rowR 10250005,.rowR 10250006,.rowR 10250007,.rowR 13]
def kC:List CK:=[.val .str,.val .str,.val tI,.val tI,.val tI,.val .bool,.val (.slice dS),.val (.slice dX),.val (.slice cQ)]
def WE:List CK:=[.val tI,.val tI,.val tI,.val (.slice .str)]
def qz:List CK:=[.val tI,.val tI]
def JN:List (Nat×Ann):=[]
noncomputable def kj:aK:=⟨[.val .str],[.val .bool],fun x=>gP x.1⟩
noncomputable def Ny:Cx:=⟨Tryz.prog,[(94,Cf)]⟩
theorem Uq:∀ x,aU Ny JN none Tryz.f38 kj x=kj.m x:=by intro x;kernel_rfl
theorem uW:aB Tryz.prog 38:=ax (fn:=Tryz.f38) (by kernel_rfl) rfl (by decide)
theorem vo:aN Tryz.prog 38 kj:=aI (X:=Ny) (.cons Tf T0 (.nil _)) (by kernel_rfl) kj JN none (by kernel_rfl) (fun x y h=>(Uq x).trans h)
def Ij:List (Nat×Ann):=[]
noncomputable def fy:aK:=⟨[.val tI,.val tI,.val tI],[.val .bool],fun x=>cE x.1 x.2.1 x.2.2.1⟩
noncomputable def LY:Cx:=⟨Tryz.prog,[]⟩
theorem TB:∀ x,aU LY Ij none Tryz.f39 fy x=fy.m x:=by intro x;kernel_rfl
theorem k9:aB Tryz.prog 39:=ax (fn:=Tryz.f39) (by kernel_rfl) rfl (by decide)
theorem kQ:aN Tryz.prog 39 fy:=aI (X:=LY) (.nil _) (by kernel_rfl) fy Ij none (by kernel_rfl) (fun x y h=>(TB x).trans h)
def Ly:List (Nat×Ann):=[]
noncomputable def qu:aK:=⟨[.val tI],[.val .bool],fun x=>Bv x.1⟩
noncomputable def Py:Cx:=⟨Tryz.prog,[(39,fy)]⟩
theorem Wt:∀ x,aU Py Ly none Tryz.f50 qu x=qu.m x:=by intro x;kernel_rfl
theorem IL:aB Tryz.prog 50:=ax (fn:=Tryz.f50) (by kernel_rfl) rfl (by decide)
theorem Jc:aN Tryz.prog 50 qu:=aI (X:=Py) (.cons kQ k9 (.nil _)) (by kernel_rfl) qu Ly none (by kernel_rfl) (fun x y h=>(Wt x).trans h)
def GX:List (Nat×Ann):=[]
noncomputable def rq:aK:=⟨[.val tI],[.val .bool],fun x=>Iz x.1⟩
noncomputable def J4:Cx:=⟨Tryz.prog,[(39,fy)]⟩
theorem SN:∀ x,aU J4 GX none Tryz.f90 rq x=rq.m x:=by intro x;kernel_rfl
theorem Tm:aB Tryz.prog 90:=ax (fn:=Tryz.f90) (by kernel_rfl) rfl (by decide)
theorem TF:aN Tryz.prog 90 rq:=aI (X:=J4) (.cons kQ k9 (.nil _)) (by kernel_rfl) rq GX none (by kernel_rfl) (fun x y h=>(SN x).trans h)
def wS:List (Nat×Ann):=[]
noncomputable def cD:aK:=⟨[.val aR],[.val tI],fun x=>b9 x.1⟩
noncomputable def Aa:Cx:=⟨Tryz.prog,[(39,fy)]⟩
theorem Jk:∀ x,aU Aa wS none Tryz.f102 cD x=cD.m x:=by intro x;kernel_rfl
theorem hJ:aB Tryz.prog 102:=ax (fn:=Tryz.f102) (by kernel_rfl) rfl (by decide)
theorem gZ:aN Tryz.prog 102 cD:=aI (X:=Aa) (.cons kQ k9 (.nil _)) (by kernel_rfl) cD wS none (by kernel_rfl) (fun x y h=>(Jk x).trans h)
def JB:List (Nat×Ann):=[(3,⟨[(3,.val tI),(4,.val tI),(5,.val tI)],[],[],aT _⟩),
 (200003,⟨[(3,.val tI)],[],[],fun _=>0⟩)]
noncomputable def oE:aK:=⟨[.val tI],[.val tI],fun x=>yz x.1⟩
noncomputable def N2:Cx:=⟨Tryz.prog,[]⟩
theorem U3:∀ x,aU N2 JB none Tryz.f160 oE x=oE.m x:=by intro x;kernel_rfl
theorem Gz:aB Tryz.prog 160:=ax (fn:=Tryz.f160) (by kernel_rfl) rfl (by decide)
theorem Gv:aN Tryz.prog 160 oE:=aI (X:=N2) (.nil _) (by kernel_rfl) oE JB none (by kernel_rfl) (fun x y h=>(U3 x).trans h)
def GU:List (Nat×Ann):=[]
noncomputable def jH:aK:=⟨[.val aR,.val tI],[.val .bool],fun x=>fR x.1 x.2.1⟩
noncomputable def Ka:Cx:=⟨Tryz.prog,[(39,fy),(160,oE)]⟩
theorem Sv:∀ x,aU Ka GU none Tryz.f103 jH x=jH.m x:=by intro x;kernel_rfl
theorem vT:aB Tryz.prog 103:=ax (fn:=Tryz.f103) (by kernel_rfl) rfl (by decide)
theorem wk:aN Tryz.prog 103 jH:=aI (X:=Ka) (.cons kQ k9 (.cons Gv Gz (.nil _))) (by kernel_rfl) jH GU none (by kernel_rfl) (fun x y h=>(Sv x).trans h)
def BV:List (Nat×Ann):=[(6,⟨[(0,.val (.slice dS)),(12,.val (.slice dS)),(13,.val tI),(14,.val tI)],[],[],aT _⟩),
 (200006,⟨[],[],[],fun _=>0⟩)]
noncomputable def nZ:aK:=⟨[.val (.slice dS)],[.val tI],fun x=>n9 x.1⟩
noncomputable def FF:Cx:=⟨Tryz.prog,[(38,kj),(102,cD),(103,jH)]⟩
theorem On:∀ x,aU FF BV none Tryz.f91 nZ x=nZ.m x:=by intro x;kernel_rfl
theorem Qe:aB Tryz.prog 91:=ax (fn:=Tryz.f91) (by kernel_rfl) rfl (by decide)
theorem Pk:aN Tryz.prog 91 nZ:=aI (X:=FF) (.cons vo uW (.cons gZ hJ (.cons wk vT (.nil _)))) (by kernel_rfl) nZ BV none (by kernel_rfl) (fun x y h=>(On x).trans h)
def HP:List (Nat×Ann):=[(3,⟨[(3,.val tI),(4,.val tI),(5,.val tI)],[],[],aT _⟩),
 (200003,⟨[(3,.val tI)],[],[],fun _=>0⟩)]
noncomputable def tq:aK:=⟨[.val tI],[.val tI],fun x=>KA x.1⟩
noncomputable def Lw:Cx:=⟨Tryz.prog,[]⟩
theorem Tb:∀ x,aU Lw HP none Tryz.f223 tq x=tq.m x:=by intro x;kernel_rfl
theorem UC:aB Tryz.prog 223:=ax (fn:=Tryz.f223) (by kernel_rfl) rfl (by decide)
theorem Uj:aN Tryz.prog 223 tq:=aI (X:=Lw) (.nil _) (by kernel_rfl) tq HP none (by kernel_rfl) (fun x y h=>(Tb x).trans h)
def GR:List (Nat×Ann):=[]
noncomputable def rC:aK:=⟨[.val aR,.val tI,.val tI],[.val .bool],fun x=>HU x.1 x.2.1 x.2.2.1⟩
noncomputable def JW:Cx:=⟨Tryz.prog,[(223,tq)]⟩
theorem Su:∀ x,aU JW GR none Tryz.f197 rC x=rC.m x:=by intro x;kernel_rfl
theorem Uc:aB Tryz.prog 197:=ax (fn:=Tryz.f197) (by kernel_rfl) rfl (by decide)
theorem Tc:aN Tryz.prog 197 rC:=aI (X:=JW) (.cons Uj UC (.nil _)) (by kernel_rfl) rC GR none (by kernel_rfl) (fun x y h=>(Su x).trans h)
def Bz:List (Nat×Ann):=[]
noncomputable def mo:aK:=⟨[.val aR],[.val tI],fun x=>pY x.1⟩
noncomputable def DG:Cx:=⟨Tryz.prog,[(102,cD),(197,rC)]⟩
theorem Ng:∀ x,aU DG Bz none Tryz.f146 mo x=mo.m x:=by intro x;kernel_rfl
theorem Oc:aB Tryz.prog 146:=ax (fn:=Tryz.f146) (by kernel_rfl) rfl (by decide)
theorem Oo:aN Tryz.prog 146 mo:=aI (X:=DG) (.cons gZ hJ (.cons Tc Uc (.nil _))) (by kernel_rfl) mo Bz none (by kernel_rfl) (fun x y h=>(Ng x).trans h)
def FZ:List (Nat×Ann):=[]
noncomputable def pQ:aK:=⟨[.val dS,.val .str],[.val tI],fun x=>F6 x.1 x.2.1⟩
noncomputable def IW:Cx:=⟨Tryz.prog,[(185,xE)]⟩
theorem QY:∀ x,aU IW FZ none Tryz.f184 pQ x=pQ.m x:=by intro x;kernel_rfl
theorem SF:aB Tryz.prog 184:=ax (fn:=Tryz.f184) (by kernel_rfl) rfl (by decide)
theorem SH:aN Tryz.prog 184 pQ:=aI (X:=IW) (.cons PF OI (.nil _)) (by kernel_rfl) pQ FZ none (by kernel_rfl) (fun x y h=>(QY x).trans h)
def j5:List (Nat×Ann):=[(3,⟨[(0,.val (.slice dS)),(1,.val .str),(2,.val (.clo 184 .unit)),(8,.val tI),(9,.val tI),(10,.val tI)],[],[],aT _⟩),
 (200003,⟨[(0,.val (.slice dS)),(1,.val .str),(2,.val (.clo 184 .unit)),(8,.val tI),(9,.val tI)],[],[],fun _=>0⟩)]
noncomputable def cx:aK:=⟨[.val (.slice dS),.val .str,.val (.clo 184 .unit)],[.val tI,.val .bool],fun x=>ez x.1 x.2.1 x.2.2.1⟩
noncomputable def kW:Cx:=⟨Tryz.prog,[(184,pQ)]⟩
theorem su:∀ x,aU kW j5 none Tryz.f183 cx x=cx.m x:=by intro x;kernel_rfl
theorem sW:aB Tryz.prog 183:=ax (fn:=Tryz.f183) (by kernel_rfl) rfl (by decide)
theorem sY:aN Tryz.prog 183 cx:=aI (X:=kW) (.cons SH SF (.nil _)) (by kernel_rfl) cx j5 none (by kernel_rfl) (fun x y h=>(su x).trans h)
def Ib:List (Nat×Ann):=[]
noncomputable def mR:aK:=⟨[.val (.slice dS),.val .str],[.val tI,.val .bool],fun x=>sk x.1 x.2.1⟩
noncomputable def Lg:Cx:=⟨Tryz.prog,[(183,cx)]⟩
theorem Tw:∀ x,aU Lg Ib none Tryz.f124 mR x=mR.m x:=by intro x;kernel_rfl
theorem Ec:aB Tryz.prog 124:=ax (fn:=Tryz.f124) (by kernel_rfl) rfl (by decide)
theorem DR:aN Tryz.prog 124 mR:=aI (X:=Lg) (.cons sY sW (.nil _)) (by kernel_rfl) mR Ib none (by kernel_rfl) (fun x y h=>(Tw x).trans h)
def GQ:List (Nat×Ann):=[]
noncomputable def oe:aK:=⟨[.val bw,.val .str],[.val .bool],fun x=>jT x.1 x.2.1⟩
noncomputable def JH:Cx:=⟨Tryz.prog,[(124,mR)]⟩
theorem Sr:∀ x,aU JH GQ none Tryz.f147 oe x=oe.m x:=by intro x;kernel_rfl
theorem Kb:aB Tryz.prog 147:=ax (fn:=Tryz.f147) (by kernel_rfl) rfl (by decide)
theorem J1:aN Tryz.prog 147 oe:=aI (X:=JH) (.cons DR Ec (.nil _)) (by kernel_rfl) oe GQ none (by kernel_rfl) (fun x y h=>(Sr x).trans h)
def Bi:List (Nat×Ann):=[(4,⟨[(2,.val .bool),(3,.ref 3 0),(13,.val (.slice cQ)),(14,.val tI),(15,.val tI)],[(3,kC)],[],aT _⟩),
 (100012,⟨[(2,.val .bool),(3,.ref 3 0),(8,.ref 8 0),(13,.val (.slice cQ)),(14,.val tI),(15,.val tI),(30,.val .bool)],[(3,kC),(8,Uv)],[],fun _=>0⟩),
 (200004,⟨[],[],[],fun _=>0⟩)]
noncomputable def jO:aK:=⟨[.val bw,.val (.slice cQ),.val .bool],[.val tI],fun x=>kG x.1 x.2.1 x.2.2.1⟩
noncomputable def DJ:Cx:=⟨Tryz.prog,[(102,cD),(103,jH),(147,oe)]⟩
theorem MO:∀ x,aU DJ Bi none Tryz.f93 jO x=jO.m x:=by intro x;kernel_rfl
theorem DE:aB Tryz.prog 93:=ax (fn:=Tryz.f93) (by kernel_rfl) rfl (by decide)
theorem DF:aN Tryz.prog 93 jO:=aI (X:=DJ) (.cons gZ hJ (.cons wk vT (.cons J1 Kb (.nil _)))) (by kernel_rfl) jO Bi none (by kernel_rfl) (fun x y h=>(MO x).trans h)
def DA:List (Nat×Ann):=[]
noncomputable def oR:aK:=⟨[.val bw,.val tI],[.val tI],fun x=>tg x.1 x.2.1⟩
noncomputable def GN:Cx:=⟨Tryz.prog,[(38,kj),(39,fy),(93,jO),(102,cD),(103,jH),(146,mo),(147,oe)]⟩
theorem Pf:∀ x,aU GN DA none Tryz.f92 oR x=oR.m x:=by intro x;kernel_rfl
theorem Q7:aB Tryz.prog 92:=ax (fn:=Tryz.f92) (by kernel_rfl) rfl (by decide)
theorem Rn:aN Tryz.prog 92 oR:=aI (X:=GN) (.cons vo uW (.cons kQ k9 (.cons DF DE (.cons gZ hJ (.cons wk vT (.cons Oo Oc (.cons J1 Kb (.nil _)))))))) (by kernel_rfl) oR DA none (by kernel_rfl) (fun x y h=>(Pf x).trans h)
def zy:List (Nat×Ann):=[(15,⟨[(1,.ref 1 0),(48,.val tI),(49,.val tI)],[(1,kC)],[],aT _⟩),
 (200015,⟨[(1,.ref 1 0)],[(1,kC)],[],fun _=>0⟩)]
noncomputable def lI:aK:=⟨[.val bw],[.val tI],fun x=>sE x.1⟩
noncomputable def B5:Cx:=⟨Tryz.prog,[(38,kj),(39,fy),(50,qu),(90,rq),(91,nZ),(92,oR),(93,jO)]⟩
theorem Lr:∀ x,aU B5 zy none Tryz.f37 lI x=lI.m x:=by intro x;kernel_rfl
theorem Nb:aB Tryz.prog 37:=ax (fn:=Tryz.f37) (by kernel_rfl) rfl (by decide)
theorem MH:aN Tryz.prog 37 lI:=aI (X:=B5) (.cons vo uW (.cons kQ k9 (.cons Jc IL (.cons TF Tm (.cons Pk Qe (.cons Rn Q7 (.cons DF DE (.nil _)))))))) (by kernel_rfl) lI zy none (by kernel_rfl) (fun x y h=>(Lr x).trans h)
def Ft:List (Nat×Ann):=[(1,⟨[(0,.val (.slice (.int .u32)))],[],[],aT _⟩),
 (200001,⟨[(0,.val (.slice (.int .u32)))],[],[],fun _=>0⟩)]
noncomputable def kF:aK:=⟨[.val (.slice (.int .u32))],[.val (.slice (.int .u32))],fun x=>qQ x.1⟩
noncomputable def Is:Cx:=⟨Tryz.prog,[]⟩
theorem QT:∀ x,aU Is Ft none Tryz.f190 kF x=kF.m x:=by intro x;kernel_rfl
theorem A4:aB Tryz.prog 190:=ax (fn:=Tryz.f190) (by kernel_rfl) rfl (by decide)
theorem AV:aN Tryz.prog 190 kF:=aI (X:=Is) (.nil _) (by kernel_rfl) kF Ft none (by kernel_rfl) (fun x y h=>(QT x).trans h)
def J6:List (Nat×Ann):=[]
noncomputable def jg:aK:=⟨[.val .bool,.val (.slice (.int .u32))],[.val aq],fun x=>ji x.1 x.2.1⟩
noncomputable def NS:Cx:=⟨Tryz.prog,[(190,kF)]⟩
theorem Vb:∀ x,aU NS J6 none Tryz.f132 jg x=jg.m x:=by intro x;kernel_rfl
theorem qW:aB Tryz.prog 132:=ax (fn:=Tryz.f132) (by kernel_rfl) rfl (by decide)
theorem qR:aN Tryz.prog 132 jg:=aI (X:=NS) (.cons AV A4 (.nil _)) (by kernel_rfl) jg J6 none (by kernel_rfl) (fun x y h=>(Vb x).trans h)
def NY:List (Nat×Ann):=[(100003,⟨[(0,.val tI),(2,.ref 2 0),(3,.val (.int .u64))],[(2,yT)],[],fun _=>0⟩)]
noncomputable def fU:aK:=⟨[.val tI],[.val aq],fun x=>bH x.1⟩
noncomputable def RW:Cx:=⟨Tryz.prog,[(132,jg)]⟩
theorem X2:∀ x,aU RW NY none Tryz.f127 fU x=fU.m x:=by intro x;kernel_rfl
theorem j8:aB Tryz.prog 127:=ax (fn:=Tryz.f127) (by kernel_rfl) rfl (by decide)
theorem j7:aN Tryz.prog 127 fU:=aI (X:=RW) (.cons qR qW (.nil _)) (by kernel_rfl) fU NY none (by kernel_rfl) (fun x y h=>(X2 x).trans h)
def CU:List (Nat×Ann):=[(3,⟨[(2,.ref 2 0),(3,.ref 3 0),(4,.ref 4 0),(5,.rowR 18),(20,.val (.slice (.int .u32))),(21,.val tI),(22,.val tI)],[(2,kH),(3,kH),(4,yT)],[.rowC 18 223 (.int .u32)],aT _⟩),
 (7,⟨[(2,.ref 2 0),(3,.ref 3 0),(4,.ref 4 0),(5,.rowR 18),(6,.val tI),(7,.val (.int .u32)),(8,.val (.int .u64)),(20,.val (.slice (.int .u32))),(21,.val tI),(22,.val tI),(28,.val (.slice (.int .u32))),(29,.val tI),(30,.val tI)],[(2,kH),(3,kH),(4,yT)],[.rowC 18 223 (.int .u32)],aT _⟩),
 (200003,⟨[(2,.ref 2 0),(3,.ref 3 0),(4,.ref 4 0),(5,.rowR 18)],[(2,kH),(3,kH),(4,yT)],[.rowC 18 223 (.int .u32)],fun _=>0⟩),
 (200007,⟨[(2,.ref 2 0),(3,.ref 3 0),(4,.ref 4 0),(5,.rowR 18),(6,.val tI),(8,.val (.int .u64)),(20,.val (.slice (.int .u32))),(21,.val tI),(22,.val tI)],[(2,kH),(3,kH),(4,yT)],[.rowC 18 223 (.int .u32)],fun _=>0⟩)]
noncomputable def fP:aK:=⟨[.val aq,.val aq],[.val aq],fun x=>fT x.1 x.2.1⟩
noncomputable def Fo:Cx:=⟨Tryz.prog,[(132,jg)]⟩
theorem N3:∀ x,aU Fo CU none Tryz.f143 fP x=fP.m x:=by intro x;kernel_rfl
theorem nM:aB Tryz.prog 143:=ax (fn:=Tryz.f143) (by kernel_rfl) rfl (by decide)
theorem nD:aN Tryz.prog 143 fP:=aI (X:=Fo) (.cons qR qW (.nil _)) (by kernel_rfl) fP CU none (by kernel_rfl) (fun x y h=>(N3 x).trans h)
def II:List (Nat×Ann):=[(3,⟨[(2,.ref 2 0),(3,.ref 3 0),(5,.val tI),(6,.val tI)],[(2,yT),(3,kH)],[],aT _⟩),
 (200003,⟨[(2,.ref 2 0),(3,.ref 3 0)],[(2,yT),(3,kH)],[],fun _=>0⟩)]
noncomputable def mQ:aK:=⟨[.val tI],[.val aq],fun x=>pI x.1⟩
noncomputable def LS:Cx:=⟨Tryz.prog,[(127,fU),(143,fP)]⟩
theorem Tv:∀ x,aU LS II none Tryz.f144 mQ x=mQ.m x:=by intro x;kernel_rfl
theorem D5:aB Tryz.prog 144:=ax (fn:=Tryz.f144) (by kernel_rfl) rfl (by decide)
theorem Eg:aN Tryz.prog 144 mQ:=aI (X:=LS) (.cons j7 j8 (.cons nD nM (.nil _))) (by kernel_rfl) mQ II none (by kernel_rfl) (fun x y h=>(Tv x).trans h)
def K9:List (Nat×Ann):=[(6,⟨[(1,.val (.slice (.int .u32))),(5,.own 223 (.int .u32)),(6,.val (.int .u64)),(20,.val (.slice (.int .u32))),(21,.val tI),(22,.val tI)],[],[],aT _⟩),
 (100002,⟨[(0,.val (.slice (.int .u32))),(1,.val (.slice (.int .u32)))],[],[],fun _=>0⟩),
 (100010,⟨[(1,.val (.slice (.int .u32))),(5,.own 223 (.int .u32)),(6,.val (.int .u64)),(20,.val (.slice (.int .u32))),(21,.val tI),(22,.val tI)],[],[],fun _=>0⟩),
 (200006,⟨[(5,.own 223 (.int .u32)),(6,.val (.int .u64))],[],[],fun _=>0⟩)]
noncomputable def xe:aK:=⟨[.val (.slice (.int .u32)),.val (.slice (.int .u32))],[.row 223 (.int .u32)],fun x=>Fk x.1 x.2.1⟩
noncomputable def Qc:Cx:=⟨Tryz.prog,[]⟩
theorem Wc:∀ x,aU Qc K9 none Tryz.f133 xe x=xe.m x:=by intro x;kernel_rfl
theorem Xv:aB Tryz.prog 133:=ax (fn:=Tryz.f133) (by kernel_rfl) rfl (by decide)
theorem Xj:aN Tryz.prog 133 xe:=aI (X:=Qc) (.nil _) (by kernel_rfl) xe K9 none (by kernel_rfl) (fun x y h=>(Wc x).trans h)
def IU:List (Nat×Ann):=[(6,⟨[(1,.val (.slice (.int .u32))),(5,.own 223 (.int .u32)),(6,.val (.int .u64)),(20,.val (.slice (.int .u32))),(21,.val tI),(22,.val tI)],[],[],aT _⟩),
 (100002,⟨[(0,.val (.slice (.int .u32))),(1,.val (.slice (.int .u32)))],[],[],fun _=>0⟩),
 (100010,⟨[(1,.val (.slice (.int .u32))),(5,.own 223 (.int .u32)),(6,.val (.int .u64)),(20,.val (.slice (.int .u32))),(21,.val tI),(22,.val tI)],[],[],fun _=>0⟩),
 (200006,⟨[(5,.own 223 (.int .u32)),(6,.val (.int .u64))],[],[],fun _=>0⟩)]
noncomputable def tG:aK:=⟨[.val (.slice (.int .u32)),.val (.slice (.int .u32))],[.val (.slice (.int .u32))],fun x=>KG x.1 x.2.1⟩
noncomputable def Lv:Cx:=⟨Tryz.prog,[]⟩
theorem TW:∀ x,aU Lv IU none Tryz.f133 tG x=tG.m x:=by intro x;kernel_rfl
theorem UU:aB Tryz.prog 133:=ax (fn:=Tryz.f133) (by kernel_rfl) rfl (by decide)
theorem UT:aN Tryz.prog 133 tG:=aI (X:=Lv) (.nil _) (by kernel_rfl) tG IU none (by kernel_rfl) (fun x y h=>(TW x).trans h)
def FW:List (Nat×Ann):=[(4,⟨[(0,.val (.slice (.int .u32))),(1,.val (.slice (.int .u32))),(5,.val tI)],[],[],aT _⟩),
 (200004,⟨[],[],[],fun _=>0⟩)]
noncomputable def mV:aK:=⟨[.val (.slice (.int .u32)),.val (.slice (.int .u32))],[.val tI],fun x=>vj x.1 x.2.1⟩
noncomputable def Iv:Cx:=⟨Tryz.prog,[]⟩
theorem QW:∀ x,aU Iv FW none Tryz.f134 mV x=mV.m x:=by intro x;kernel_rfl
theorem Iu:aB Tryz.prog 134:=ax (fn:=Tryz.f134) (by kernel_rfl) rfl (by decide)
theorem H8:aN Tryz.prog 134 mV:=aI (X:=Iv) (.nil _) (by kernel_rfl) mV FW none (by kernel_rfl) (fun x y h=>(QW x).trans h)
def Js:List (Nat×Ann):=[(4,⟨[(1,.val (.slice (.int .u32))),(5,.own 223 (.int .u32)),(6,.val (.int .u64)),(13,.val (.slice (.int .u32))),(14,.val tI),(15,.val tI)],[],[],aT _⟩),
 (100008,⟨[(1,.val (.slice (.int .u32))),(5,.own 223 (.int .u32)),(9,.val (.int .u64)),(13,.val (.slice (.int .u32))),(14,.val tI),(15,.val tI)],[],[],fun _=>0⟩),
 (200004,⟨[(5,.own 223 (.int .u32))],[],[],fun _=>0⟩)]
noncomputable def qT:aK:=⟨[.val (.slice (.int .u32)),.val (.slice (.int .u32))],[.val (.slice (.int .u32))],fun x=>yj x.1 x.2.1⟩
noncomputable def NI:Cx:=⟨Tryz.prog,[(190,kF)]⟩
theorem UZ:∀ x,aU NI Js none Tryz.f135 qT x=qT.m x:=by intro x;kernel_rfl
theorem Nk:aB Tryz.prog 135:=ax (fn:=Tryz.f135) (by kernel_rfl) rfl (by decide)
theorem NL:aN Tryz.prog 135 qT:=aI (X:=NI) (.cons AV A4 (.nil _)) (by kernel_rfl) qT Js none (by kernel_rfl) (fun x y h=>(UZ x).trans h)
def GK:List (Nat×Ann):=[(4,⟨[(2,.ref 2 0),(3,.ref 3 0),(4,.ref 4 0),(5,.ref 5 0),(6,.rowR 12),(7,.val (.slice (.int .u32))),(8,.val tI)],[(2,kH),(3,kH),(4,yT),(5,yT)],[.rowC 12 223 (.int .u32)],aT _⟩),
 (200004,⟨[(4,.ref 4 0),(5,.ref 5 0),(6,.rowR 12),(7,.val (.slice (.int .u32)))],[(4,yT),(5,yT)],[.rowC 12 223 (.int .u32)],fun _=>0⟩)]
noncomputable def lD:aK:=⟨[.val aq,.val aq],[.val aq,.val aq],fun x=>td x.1 x.2.1⟩
noncomputable def Jz:Cx:=⟨Tryz.prog,[(132,jg),(133,xe),(134,mV),(135,qT),(190,kF)]⟩
theorem Sp:∀ x,aU Jz GK none Tryz.f195 lD x=lD.m x:=by intro x;kernel_rfl
theorem B4:aB Tryz.prog 195:=ax (fn:=Tryz.f195) (by kernel_rfl) rfl (by decide)
theorem C5:aN Tryz.prog 195 lD:=aI (X:=Jz) (.cons qR qW (.cons Xj Xv (.cons H8 Iu (.cons NL Nk (.cons AV A4 (.nil _)))))) (by kernel_rfl) lD GK none (by kernel_rfl) (fun x y h=>(Sp x).trans h)
def Dw:List (Nat×Ann):=[]
noncomputable def ic:aK:=⟨[.val aq],[.val tI],fun x=>aM x.1⟩
noncomputable def GM:Cx:=⟨Tryz.prog,[]⟩
theorem O6:∀ x,aU GM Dw none Tryz.f158 ic x=ic.m x:=by intro x;kernel_rfl
theorem sB:aB Tryz.prog 158:=ax (fn:=Tryz.f158) (by kernel_rfl) rfl (by decide)
theorem sO:aN Tryz.prog 158 ic:=aI (X:=GM) (.nil _) (by kernel_rfl) ic Dw none (by kernel_rfl) (fun x y h=>(O6 x).trans h)
def Dv:List (Nat×Ann):=[]
noncomputable def cJ:aK:=⟨[.val aq,.val aq],[.val aq],fun x=>bg x.1 x.2.1⟩
noncomputable def GJ:Cx:=⟨Tryz.prog,[(132,jg),(133,tG),(134,mV),(135,qT)]⟩
theorem PX:∀ x,aU GJ Dv none Tryz.f71 cJ x=cJ.m x:=by intro x;kernel_rfl
theorem gq:aB Tryz.prog 71:=ax (fn:=Tryz.f71) (by kernel_rfl) rfl (by decide)
theorem gm:aN Tryz.prog 71 cJ:=aI (X:=GJ) (.cons qR qW (.cons UT UU (.cons H8 Iu (.cons NL Nk (.nil _))))) (by kernel_rfl) cJ Dv none (by kernel_rfl) (fun x y h=>(PX x).trans h)
def CS:List (Nat×Ann):=[]
noncomputable def iZ:aK:=⟨[.val aq],[.val aq],fun x=>aL x.1⟩
noncomputable def FV:Cx:=⟨Tryz.prog,[(132,jg)]⟩
theorem N4:∀ x,aU FV CS none Tryz.f159 iZ x=iZ.m x:=by intro x;kernel_rfl
theorem xW:aB Tryz.prog 159:=ax (fn:=Tryz.f159) (by kernel_rfl) rfl (by decide)
theorem xI:aN Tryz.prog 159 iZ:=aI (X:=FV) (.cons qR qW (.nil _)) (by kernel_rfl) iZ CS none (by kernel_rfl) (fun x y h=>(N4 x).trans h)
def Dx:List (Nat×Ann):=[]
noncomputable def oM:aK:=⟨[.val aq,.val aq],[.val aq],fun x=>yA x.1 x.2.1⟩
noncomputable def GH:Cx:=⟨Tryz.prog,[(71,cJ),(159,iZ)]⟩
theorem Px:∀ x,aU GH Dx none Tryz.f165 oM x=oM.m x:=by intro x;kernel_rfl
theorem Rl:aB Tryz.prog 165:=ax (fn:=Tryz.f165) (by kernel_rfl) rfl (by decide)
theorem QX:aN Tryz.prog 165 oM:=aI (X:=GH) (.cons gm gq (.cons xI xW (.nil _))) (by kernel_rfl) oM Dx none (by kernel_rfl) (fun x y h=>(Px x).trans h)
def zU:List (Nat×Ann):=[]
noncomputable def jj:aK:=⟨[.val aq,.val aq],[.val tI],fun x=>oX x.1 x.2.1⟩
noncomputable def C4:Cx:=⟨Tryz.prog,[(158,ic),(165,oM)]⟩
theorem LW:∀ x,aU C4 zU none Tryz.f116 jj x=jj.m x:=by intro x;kernel_rfl
theorem CZ:aB Tryz.prog 116:=ax (fn:=Tryz.f116) (by kernel_rfl) rfl (by decide)
theorem Cg:aN Tryz.prog 116 jj:=aI (X:=C4) (.cons sO sB (.cons QX Rl (.nil _))) (by kernel_rfl) jj zU none (by kernel_rfl) (fun x y h=>(LW x).trans h)
def E9:List (Nat×Ann):=[]
noncomputable def qb:aK:=⟨[.val aq],[.val .bool],fun x=>gv x.1⟩
noncomputable def Ih:Cx:=⟨Tryz.prog,[]⟩
theorem QS:∀ x,aU Ih E9 none Tryz.f196 qb x=qb.m x:=by intro x;kernel_rfl
theorem SM:aB Tryz.prog 196:=ax (fn:=Tryz.f196) (by kernel_rfl) rfl (by decide)
theorem Se:aN Tryz.prog 196 qb:=aI (X:=Ih) (.nil _) (by kernel_rfl) qb E9 none (by kernel_rfl) (fun x y h=>(QS x).trans h)
def Dp:List (Nat×Ann):=[]
noncomputable def lS:aK:=⟨[.val aq,.val aq,.val tI],[.val aq],fun x=>tE x.1 x.2.1 x.2.2.1⟩
noncomputable def GI:Cx:=⟨Tryz.prog,[(71,cJ),(116,jj),(127,fU),(158,ic),(159,iZ),(195,lD),(196,qb)]⟩
theorem OW:∀ x,aU GI Dp none Tryz.f145 lS x=lS.m x:=by intro x;kernel_rfl
theorem GG:aB Tryz.prog 145:=ax (fn:=Tryz.f145) (by kernel_rfl) rfl (by decide)
theorem G5:aN Tryz.prog 145 lS:=aI (X:=GI) (.cons gm gq (.cons Cg CZ (.cons j7 j8 (.cons sO sB (.cons xI xW (.cons C5 B4 (.cons Se SM (.nil _)))))))) (by kernel_rfl) lS Dp none (by kernel_rfl) (fun x y h=>(OW x).trans h)
def E4:List (Nat×Ann):=[(5,⟨[(1,.val tI),(2,.ref 2 0),(6,.val (.int .u64)),(14,.val (.slice (.int .u32))),(15,.val tI),(16,.val tI)],[(2,kH)],[],aT _⟩),
 (200005,⟨[(1,.val tI),(2,.ref 2 0),(6,.val (.int .u64))],[(2,kH)],[],fun _=>0⟩)]
noncomputable def je:aK:=⟨[.val aq,.val tI],[.val tI,.val .bool],fun x=>oD x.1 x.2.1⟩
noncomputable def IS:Cx:=⟨Tryz.prog,[]⟩
theorem Q0:∀ x,aU IS E4 none Tryz.f137 je x=je.m x:=by intro x;kernel_rfl
theorem uD:aB Tryz.prog 137:=ax (fn:=Tryz.f137) (by kernel_rfl) rfl (by decide)
theorem uT:aN Tryz.prog 137 je:=aI (X:=IS) (.nil _) (by kernel_rfl) je E4 none (by kernel_rfl) (fun x y h=>(Q0 x).trans h)
def La:List (Nat×Ann):=[]
noncomputable def jd:aK:=⟨[.val aq],[.val .bool],fun x=>jK x.1⟩
noncomputable def Qa:Cx:=⟨Tryz.prog,[(137,je)]⟩
theorem Wl:∀ x,aU Qa La none Tryz.f74 jd x=jd.m x:=by intro x;kernel_rfl
theorem qi:aB Tryz.prog 74:=ax (fn:=Tryz.f74) (by kernel_rfl) rfl (by decide)
theorem p9:aN Tryz.prog 74 jd:=aI (X:=Qa) (.cons uT uD (.nil _)) (by kernel_rfl) jd La none (by kernel_rfl) (fun x y h=>(Wl x).trans h)
def JX:List (Nat×Ann):=[]
noncomputable def u0:aK:=⟨[.val bw,.val dX],[.val aq,.val .bool],fun x=>Hj x.1 x.2.1⟩
noncomputable def Nv:Cx:=⟨Tryz.prog,[(74,jd),(127,fU),(143,fP),(144,mQ),(145,lS)]⟩
theorem U8:∀ x,aU Nv JX none Tryz.f87 u0 x=u0.m x:=by intro x;kernel_rfl
theorem Wx:aB Tryz.prog 87:=ax (fn:=Tryz.f87) (by kernel_rfl) rfl (by decide)
theorem Ww:aN Tryz.prog 87 u0:=aI (X:=Nv) (.cons p9 qi (.cons j7 j8 (.cons nD nM (.cons Eg D5 (.cons G5 GG (.nil _)))))) (by kernel_rfl) u0 JX none (by kernel_rfl) (fun x y h=>(U8 x).trans h)
def Fb:List (Nat×Ann):=[]
noncomputable def m6:aK:=⟨[.val aR,.val tI],[.val aq],fun x=>qS x.1 x.2.1⟩
noncomputable def HV:Cx:=⟨Tryz.prog,[(127,fU),(143,fP),(144,mQ)]⟩
theorem Rm:∀ x,aU HV Fb none Tryz.f88 m6 x=m6.m x:=by intro x;kernel_rfl
theorem IG:aB Tryz.prog 88:=ax (fn:=Tryz.f88) (by kernel_rfl) rfl (by decide)
theorem HM:aN Tryz.prog 88 m6:=aI (X:=HV) (.cons j7 j8 (.cons nD nM (.cons Eg D5 (.nil _)))) (by kernel_rfl) m6 Fb none (by kernel_rfl) (fun x y h=>(Rm x).trans h)
def Lh:List (Nat×Ann):=[]
noncomputable def pR:aK:=⟨[.val bw,.val aq,.val aR],[.val aq],fun x=>rG x.1 x.2.1 x.2.2.1⟩
noncomputable def PN:Cx:=⟨Tryz.prog,[(127,fU),(143,fP),(144,mQ),(145,lS)]⟩
theorem V9:∀ x,aU PN Lh none Tryz.f89 pR x=pR.m x:=by intro x;kernel_rfl
theorem Iq:aB Tryz.prog 89:=ax (fn:=Tryz.f89) (by kernel_rfl) rfl (by decide)
theorem IT:aN Tryz.prog 89 pR:=aI (X:=PN) (.cons j7 j8 (.cons nD nM (.cons Eg D5 (.cons G5 GG (.nil _))))) (by kernel_rfl) pR Lh none (by kernel_rfl) (fun x y h=>(V9 x).trans h)
def NO:List (Nat×Ann):=[(4,⟨[(2,.ref 2 0),(4,.ref 4 0),(6,.ref 6 0),(7,.val .bool),(8,.ref 8 0),(20,.val (.slice cQ)),(21,.val tI),(22,.val tI)],[(2,kC),(4,yT),(6,kH),(8,kH)],[],aT _⟩),
 (100008,⟨[(2,.ref 2 0),(4,.ref 4 0),(6,.ref 6 0),(7,.val .bool),(8,.ref 8 0),(11,.ref 11 0),(20,.val (.slice cQ)),(21,.val tI),(22,.val tI)],[(2,kC),(4,yT),(6,kH),(8,kH),(11,kH)],[],fun _=>0⟩),
 (200004,⟨[(4,.ref 4 0),(7,.val .bool),(8,.ref 8 0)],[(4,yT),(8,kH)],[],fun _=>0⟩)]
noncomputable def zE:aK:=⟨[.val bw,.val dX],[.val aq,.val .bool],fun x=>Mj x.1 x.2.1⟩
noncomputable def RP:Cx:=⟨Tryz.prog,[(71,cJ),(74,jd),(87,u0),(88,m6),(89,pR)]⟩
theorem WS:∀ x,aU RP NO none Tryz.f36 zE x=zE.m x:=by intro x;kernel_rfl
theorem YU:aB Tryz.prog 36:=ax (fn:=Tryz.f36) (by kernel_rfl) rfl (by decide)
theorem ZA:aN Tryz.prog 36 zE:=aI (X:=RP) (.cons gm gq (.cons p9 qi (.cons Ww Wx (.cons HM IG (.cons IT Iq (.nil _)))))) (by kernel_rfl) zE NO none (by kernel_rfl) (fun x y h=>(WS x).trans h)
def wj:List (Nat×Ann):=[]
noncomputable def ju:aK:=⟨[.val aq],[.val .bool],fun x=>um x.1⟩
noncomputable def yK:Cx:=⟨Tryz.prog,[(74,jd)]⟩
theorem Jb:∀ x,aU yK wj none Tryz.f125 ju x=ju.m x:=by intro x;kernel_rfl
theorem Jm:aB Tryz.prog 125:=ax (fn:=Tryz.f125) (by kernel_rfl) rfl (by decide)
theorem Jo:aN Tryz.prog 125 ju:=aI (X:=yK) (.cons p9 qi (.nil _)) (by kernel_rfl) ju wj none (by kernel_rfl) (fun x y h=>(Jb x).trans h)
def yJ:List (Nat×Ann):=[]
noncomputable def kN:aK:=⟨[.val aq],[.val .bool],fun x=>wR x.1⟩
noncomputable def Bo:Cx:=⟨Tryz.prog,[(74,jd)]⟩
theorem Kv:∀ x,aU Bo yJ none Tryz.f130 kN x=kN.m x:=by intro x;kernel_rfl
theorem K6:aB Tryz.prog 130:=ax (fn:=Tryz.f130) (by kernel_rfl) rfl (by decide)
theorem KY:aN Tryz.prog 130 kN:=aI (X:=Bo) (.cons p9 qi (.nil _)) (by kernel_rfl) kN yJ none (by kernel_rfl) (fun x y h=>(Kv x).trans h)
def Bk:List (Nat×Ann):=[]
noncomputable def mm:aK:=⟨[.val aq],[.val .bool],fun x=>AR x.1⟩
noncomputable def Dt:Cx:=⟨Tryz.prog,[(74,jd)]⟩
theorem Mg:∀ x,aU Dt Bk none Tryz.f131 mm x=mm.m x:=by intro x;kernel_rfl
theorem Ol:aB Tryz.prog 131:=ax (fn:=Tryz.f131) (by kernel_rfl) rfl (by decide)
theorem Oi:aN Tryz.prog 131 mm:=aI (X:=Dt) (.cons p9 qi (.nil _)) (by kernel_rfl) mm Bk none (by kernel_rfl) (fun x y h=>(Mg x).trans h)
def xg:List (Nat×Ann):=[]
noncomputable def j9:aK:=⟨[.val aq],[.val .bool],fun x=>vN x.1⟩
noncomputable def zN:Cx:=⟨Tryz.prog,[(74,jd)]⟩
theorem Jj:∀ x,aU zN xg none Tryz.f73 j9 x=j9.m x:=by intro x;kernel_rfl
theorem KF:aB Tryz.prog 73:=ax (fn:=Tryz.f73) (by kernel_rfl) rfl (by decide)
theorem KO:aN Tryz.prog 73 j9:=aI (X:=zN) (.cons p9 qi (.nil _)) (by kernel_rfl) j9 xg none (by kernel_rfl) (fun x y h=>(Jj x).trans h)
def qF:List (Nat×Ann):=[(2,⟨[(0,.val (.slice aq)),(1,.val (.clo 125 .unit)),(7,.val tI),(8,.val tI)],[],[],aT _⟩),
 (200002,⟨[],[],[],fun _=>0⟩)]
noncomputable def gh:aK:=⟨[.val (.slice aq),.val (.clo 125 .unit)],[.val tI],fun x=>ou x.1 x.2.1⟩
noncomputable def sr:Cx:=⟨Tryz.prog,[(125,ju)]⟩
theorem Cp:∀ x,aU sr qF none Tryz.f136 gh x=gh.m x:=by intro x;kernel_rfl
theorem Di:aB Tryz.prog 136:=ax (fn:=Tryz.f136) (by kernel_rfl) rfl (by decide)
theorem Dj:aN Tryz.prog 136 gh:=aI (X:=sr) (.cons Jo Jm (.nil _)) (by kernel_rfl) gh qF none (by kernel_rfl) (fun x y h=>(Cp x).trans h)
def pF:List (Nat×Ann):=[(2,⟨[(0,.val (.slice aq)),(1,.val (.clo 130 .unit)),(7,.val tI),(8,.val tI)],[],[],aT _⟩),
 (200002,⟨[],[],[],fun _=>0⟩)]
noncomputable def eX:aK:=⟨[.val (.slice aq),.val (.clo 130 .unit)],[.val tI],fun x=>mO x.1 x.2.1⟩
noncomputable def qH:Cx:=⟨Tryz.prog,[(130,kN)]⟩
theorem AO:∀ x,aU qH pF none Tryz.f136 eX x=eX.m x:=by intro x;kernel_rfl
theorem BM:aB Tryz.prog 136:=ax (fn:=Tryz.f136) (by kernel_rfl) rfl (by decide)
theorem BN:aN Tryz.prog 136 eX:=aI (X:=qH) (.cons KY K6 (.nil _)) (by kernel_rfl) eX pF none (by kernel_rfl) (fun x y h=>(AO x).trans h)
def pq:List (Nat×Ann):=[(2,⟨[(0,.val (.slice aq)),(1,.val (.clo 131 .unit)),(7,.val tI),(8,.val tI)],[],[],aT _⟩),
 (200002,⟨[],[],[],fun _=>0⟩)]
noncomputable def ff:aK:=⟨[.val (.slice aq),.val (.clo 131 .unit)],[.val tI],fun x=>mW x.1 x.2.1⟩
noncomputable def qG:Cx:=⟨Tryz.prog,[(131,mm)]⟩
theorem AQ:∀ x,aU qG pq none Tryz.f136 ff x=ff.m x:=by intro x;kernel_rfl
theorem BK:aB Tryz.prog 136:=ax (fn:=Tryz.f136) (by kernel_rfl) rfl (by decide)
theorem BL:aN Tryz.prog 136 ff:=aI (X:=qG) (.cons Oi Ol (.nil _)) (by kernel_rfl) ff pq none (by kernel_rfl) (fun x y h=>(AQ x).trans h)
def pE:List (Nat×Ann):=[(2,⟨[(0,.val (.slice aq)),(1,.val (.clo 73 .unit)),(7,.val tI),(8,.val tI)],[],[],aT _⟩),
 (200002,⟨[],[],[],fun _=>0⟩)]
noncomputable def fe:aK:=⟨[.val (.slice aq),.val (.clo 73 .unit)],[.val tI],fun x=>mS x.1 x.2.1⟩
noncomputable def qI:Cx:=⟨Tryz.prog,[(73,j9)]⟩
theorem AZ:∀ x,aU qI pE none Tryz.f136 fe x=fe.m x:=by intro x;kernel_rfl
theorem BJ:aB Tryz.prog 136:=ax (fn:=Tryz.f136) (by kernel_rfl) rfl (by decide)
theorem BP:aN Tryz.prog 136 fe:=aI (X:=qI) (.cons KO KF (.nil _)) (by kernel_rfl) fe pE none (by kernel_rfl) (fun x y h=>(AZ x).trans h)
def oQ:List (Nat×Ann):=[]
noncomputable def eH:aK:=⟨[.val (.slice aq),.val (.clo 125 .unit)],[.val .bool],fun x=>iU x.1 x.2.1⟩
noncomputable def p5:Cx:=⟨Tryz.prog,[(136,gh)]⟩
theorem zH:∀ x,aU p5 oQ none Tryz.f72 eH x=eH.m x:=by intro x;kernel_rfl
theorem A7:aB Tryz.prog 72:=ax (fn:=Tryz.f72) (by kernel_rfl) rfl (by decide)
theorem Bb:aN Tryz.prog 72 eH:=aI (X:=p5) (.cons Dj Di (.nil _)) (by kernel_rfl) eH oQ none (by kernel_rfl) (fun x y h=>(zH x).trans h)
def nO:List (Nat×Ann):=[]
noncomputable def dI:aK:=⟨[.val (.slice aq),.val (.clo 130 .unit)],[.val .bool],fun x=>bU x.1 x.2.1⟩
noncomputable def oO:Cx:=⟨Tryz.prog,[(136,eX)]⟩
theorem yy:∀ x,aU oO nO none Tryz.f72 dI x=dI.m x:=by intro x;kernel_rfl
theorem yR:aB Tryz.prog 72:=ax (fn:=Tryz.f72) (by kernel_rfl) rfl (by decide)
theorem yY:aN Tryz.prog 72 dI:=aI (X:=oO) (.cons BN BM (.nil _)) (by kernel_rfl) dI nO none (by kernel_rfl) (fun x y h=>(yy x).trans h)
def nJ:List (Nat×Ann):=[]
noncomputable def dJ:aK:=⟨[.val (.slice aq),.val (.clo 131 .unit)],[.val .bool],fun x=>gY x.1 x.2.1⟩
noncomputable def oP:Cx:=⟨Tryz.prog,[(136,ff)]⟩
theorem x8:∀ x,aU oP nJ none Tryz.f72 dJ x=dJ.m x:=by intro x;kernel_rfl
theorem zh:aB Tryz.prog 72:=ax (fn:=Tryz.f72) (by kernel_rfl) rfl (by decide)
theorem zl:aN Tryz.prog 72 dJ:=aI (X:=oP) (.cons BL BK (.nil _)) (by kernel_rfl) dJ nJ none (by kernel_rfl) (fun x y h=>(x8 x).trans h)
def nP:List (Nat×Ann):=[]
noncomputable def dK:aK:=⟨[.val (.slice aq),.val (.clo 73 .unit)],[.val .bool],fun x=>gX x.1 x.2.1⟩
noncomputable def oI:Cx:=⟨Tryz.prog,[(136,fe)]⟩
theorem yw:∀ x,aU oI nP none Tryz.f72 dK x=dK.m x:=by intro x;kernel_rfl
theorem yU:aB Tryz.prog 72:=ax (fn:=Tryz.f72) (by kernel_rfl) rfl (by decide)
theorem yW:aN Tryz.prog 72 dK:=aI (X:=oI) (.cons BP BJ (.nil _)) (by kernel_rfl) dK nP none (by kernel_rfl) (fun x y h=>(yw x).trans h)
def uh:List (Nat×Ann):=[]
noncomputable def iw:aK:=⟨[.val (.slice aq)],[.row 135 aq],fun x=>nk x.1⟩
noncomputable def wz:Cx:=⟨Tryz.prog,[]⟩
theorem Gt:∀ x,aU wz uh none Tryz.f126 iw x=iw.m x:=by intro x;kernel_rfl
theorem G9:aB Tryz.prog 126:=ax (fn:=Tryz.f126) (by kernel_rfl) rfl (by decide)
theorem He:aN Tryz.prog 126 iw:=aI (X:=wz) (.nil _) (by kernel_rfl) iw uh none (by kernel_rfl) (fun x y h=>(Gt x).trans h)
def yH:List (Nat×Ann):=[(4,⟨[(0,.ref 2000 0),(30,.val (.slice dX)),(31,.val tI),(32,.val tI)],[(2000,acQ)],[.rowC 19 135 aq,.rowC 21 4 .bool,.rowC 10250004 135 aq,.rowC 10250006 135 aq,.rowC 10250008 135 aq],aT _⟩),
 (200004,⟨[(0,.ref 2000 0)],[(2000,acQ)],[.rowC 19 135 aq,.rowC 21 4 .bool,.rowC 10250004 135 aq,.rowC 10250006 135 aq,.rowC 10250008 135 aq],fun _=>0⟩)]
noncomputable def kL:aK:=⟨[.box [.val bw,.row 135 aq,.val (.slice aq),.row 135 aq,.row 186 cT,.row 135 aq,.row 4 .bool,.row 135 aq]],[.val tI],fun x=>nL x.1⟩
noncomputable def Bs:Cx:=⟨Tryz.prog,[(36,zE),(71,cJ),(72,eH),(124,mR),(126,iw)]⟩
theorem Kq:∀ x,aU Bs yH none Tryz.f67 kL x=kL.m x:=by intro x;kernel_rfl
theorem LH:aB Tryz.prog 67:=ax (fn:=Tryz.f67) (by kernel_rfl) rfl (by decide)
theorem LZ:aN Tryz.prog 67 kL:=aI (X:=Bs) (.cons ZA YU (.cons gm gq (.cons Bb A7 (.cons DR Ec (.cons He G9 (.nil _)))))) (by kernel_rfl) kL yH none (by kernel_rfl) (fun x y h=>(Kq x).trans h)
def BD:List (Nat×Ann):=[]
noncomputable def jN:aK:=⟨[.box [.val bw,.row 135 aq,.val (.slice aq),.row 135 aq,.row 186 cT,.row 135 aq,.row 4 .bool,.row 135 aq],.val tI,.val aq],[],fun x=>fV x.1 x.2.1 x.2.2.1⟩
noncomputable def DI:Cx:=⟨Tryz.prog,[(71,cJ)]⟩
theorem Nc:∀ x,aU DI BD none Tryz.f128 jN x=jN.m x:=by intro x;kernel_rfl
theorem Dl:aB Tryz.prog 128:=ax (fn:=Tryz.f128) (by kernel_rfl) rfl (by decide)
theorem DL:aN Tryz.prog 128 jN:=aI (X:=DI) (.cons gm gq (.nil _)) (by kernel_rfl) jN BD none (by kernel_rfl) (fun x y h=>(Nc x).trans h)
def Fw:List (Nat×Ann):=[]
noncomputable def qq:aK:=⟨[.val aq],[.val aq],fun x=>Ac x.1⟩
noncomputable def IV:Cx:=⟨Tryz.prog,[(132,jg)]⟩
theorem Rh:∀ x,aU IV Fw none Tryz.f186 qq x=qq.m x:=by intro x;kernel_rfl
theorem SI:aB Tryz.prog 186:=ax (fn:=Tryz.f186) (by kernel_rfl) rfl (by decide)
theorem Sm:aN Tryz.prog 186 qq:=aI (X:=IV) (.cons qR qW (.nil _)) (by kernel_rfl) qq Fw none (by kernel_rfl) (fun x y h=>(Rh x).trans h)
def xq:List (Nat×Ann):=[]
noncomputable def jV:aK:=⟨[.val tI],[.val .bool],fun x=>vP x.1⟩
noncomputable def zL:Cx:=⟨Tryz.prog,[]⟩
theorem Jn:∀ x,aU zL xq none Tryz.f188 jV x=jV.m x:=by intro x;kernel_rfl
theorem Ks:aB Tryz.prog 188:=ax (fn:=Tryz.f188) (by kernel_rfl) rfl (by decide)
theorem KL:aN Tryz.prog 188 jV:=aI (X:=zL) (.nil _) (by kernel_rfl) jV xq none (by kernel_rfl) (fun x y h=>(Jn x).trans h)
def vV:List (Nat×Ann):=[(2,⟨[(0,.val (.slice tI)),(1,.val (.clo 188 .unit)),(7,.val tI),(8,.val tI)],[],[],aT _⟩),
 (200002,⟨[],[],[],fun _=>0⟩)]
noncomputable def jl:aK:=⟨[.val (.slice tI),.val (.clo 188 .unit)],[.val tI],fun x=>uH x.1 x.2.1⟩
noncomputable def yL:Cx:=⟨Tryz.prog,[(188,jV)]⟩
theorem Ix:∀ x,aU yL vV none Tryz.f217 jl x=jl.m x:=by intro x;kernel_rfl
theorem Jl:aB Tryz.prog 217:=ax (fn:=Tryz.f217) (by kernel_rfl) rfl (by decide)
theorem Ji:aN Tryz.prog 217 jl:=aI (X:=yL) (.cons KL Ks (.nil _)) (by kernel_rfl) jl vV none (by kernel_rfl) (fun x y h=>(Ix x).trans h)
def sV:List (Nat×Ann):=[]
noncomputable def gS:aK:=⟨[.val (.slice tI),.val (.clo 188 .unit)],[.val .bool],fun x=>jm x.1 x.2.1⟩
noncomputable def uV:Cx:=⟨Tryz.prog,[(217,jl)]⟩
theorem FB:∀ x,aU uV sV none Tryz.f187 gS x=gS.m x:=by intro x;kernel_rfl
theorem Gy:aB Tryz.prog 187:=ax (fn:=Tryz.f187) (by kernel_rfl) rfl (by decide)
theorem Gm:aN Tryz.prog 187 gS:=aI (X:=uV) (.cons Ji Jl (.nil _)) (by kernel_rfl) gS sV none (by kernel_rfl) (fun x y h=>(FB x).trans h)
def Ip:List (Nat×Ann):=[]
noncomputable def mY:aK:=⟨[.val aq,.val tI],[.val aR,.val tI],fun x=>r0 x.1 x.2.1⟩
noncomputable def LB:Cx:=⟨Tryz.prog,[(137,je)]⟩
theorem Tk:∀ x,aU LB Ip none Tryz.f86 mY x=mY.m x:=by intro x;kernel_rfl
theorem D2:aB Tryz.prog 86:=ax (fn:=Tryz.f86) (by kernel_rfl) rfl (by decide)
theorem DQ:aN Tryz.prog 86 mY:=aI (X:=LB) (.cons uT uD (.nil _)) (by kernel_rfl) mY Ip none (by kernel_rfl) (fun x y h=>(Tk x).trans h)
def xp:List (Nat×Ann):=[(7,⟨[(3,.val tI),(12,.val (.slice tI)),(13,.val tI),(14,.val tI)],[],[],aT _⟩),
 (200007,⟨[(3,.val tI)],[],[],fun _=>0⟩)]
noncomputable def jY:aK:=⟨[.val (.slice tI)],[.val tI],fun x=>qA x.1⟩
noncomputable def z8:Cx:=⟨Tryz.prog,[(39,fy)]⟩
theorem Jg:∀ x,aU z8 xp none Tryz.f218 jY x=jY.m x:=by intro x;kernel_rfl
theorem Kl:aB Tryz.prog 218:=ax (fn:=Tryz.f218) (by kernel_rfl) rfl (by decide)
theorem KH:aN Tryz.prog 218 jY:=aI (X:=z8) (.cons kQ k9 (.nil _)) (by kernel_rfl) jY xp none (by kernel_rfl) (fun x y h=>(Jg x).trans h)
def Cr:List (Nat×Ann):=[]
noncomputable def kX:aK:=⟨[.val aZ,.val aZ],[.val tI],fun x=>lJ x.1 x.2.1⟩
noncomputable def FU:Cx:=⟨Tryz.prog,[(116,jj)]⟩
theorem Od:∀ x,aU FU Cr none Tryz.f220 kX x=kX.m x:=by intro x;kernel_rfl
theorem FH:aB Tryz.prog 220:=ax (fn:=Tryz.f220) (by kernel_rfl) rfl (by decide)
theorem FX:aN Tryz.prog 220 kX:=aI (X:=FU) (.cons Cg CZ (.nil _)) (by kernel_rfl) kX Cr none (by kernel_rfl) (fun x y h=>(Od x).trans h)
def jL:List (Nat×Ann):=[(1,⟨[(0,.rowR 10250000),(1,.val tI),(2,.val tI),(3,.val (.clo 220 .unit)),(8,.val tI)],[],[.rowC 10250000 261 aZ],aT _⟩),
 (4,⟨[(0,.rowR 10250000),(1,.val tI),(2,.val tI),(3,.val (.clo 220 .unit)),(8,.val tI),(9,.val tI)],[],[.rowC 10250000 261 aZ],aT _⟩),
 (200001,⟨[],[],[.rowC 10250000 261 aZ],fun _=>0⟩),
 (200004,⟨[(0,.rowR 10250000),(1,.val tI),(2,.val tI),(3,.val (.clo 220 .unit)),(8,.val tI)],[],[.rowC 10250000 261 aZ],fun _=>0⟩)]
noncomputable def cl:aK:=⟨[.mrow 261 aZ,.val tI,.val tI,.val (.clo 220 .unit)],[],fun x=>cH x.1 x.2.1 x.2.2.1 x.2.2.2.1⟩
noncomputable def kD:Cx:=⟨Tryz.prog,[(220,kX)]⟩
theorem rR:∀ x,aU kD jL none Tryz.f241 cl x=cl.m x:=by intro x;kernel_rfl
theorem sA:aB Tryz.prog 241:=ax (fn:=Tryz.f241) (by kernel_rfl) rfl (by decide)
theorem sw:aN Tryz.prog 241 cl:=aI (X:=kD) (.cons FX FH (.nil _)) (by kernel_rfl) cl jL none (by kernel_rfl) (fun x y h=>(rR x).trans h)
def lB:List (Nat×Ann):=[(1,⟨[(0,.rowR 10250000),(1,.val tI),(2,.val tI),(3,.val tI),(10,.val tI)],[],[.rowC 10250000 261 aZ],aT _⟩),
 (200001,⟨[],[],[.rowC 10250000 261 aZ],fun _=>0⟩)]
noncomputable def cO:aK:=⟨[.mrow 261 aZ,.val tI,.val tI,.val tI,.val (.clo 220 .unit)],[],fun x=>cy x.1 x.2.1 x.2.2.1 x.2.2.2.1 x.2.2.2.2.1⟩
noncomputable def lW:Cx:=⟨Tryz.prog,[]⟩
theorem uA:∀ x,aU lW lB none Tryz.f244 cO x=cO.m x:=by intro x;kernel_rfl
theorem vq:aB Tryz.prog 244:=ax (fn:=Tryz.f244) (by kernel_rfl) rfl (by decide)
theorem vm:aN Tryz.prog 244 cO:=aI (X:=lW) (.nil _) (by kernel_rfl) cO lB none (by kernel_rfl) (fun x y h=>(uA x).trans h)
def mw:List (Nat×Ann):=[(2,⟨[(0,.rowR 10250000),(2,.val tI),(4,.val (.clo 220 .unit)),(10,.val tI),(11,.val tI)],[],[.rowC 10250000 261 aZ],aT _⟩),
 (200002,⟨[(0,.rowR 10250000),(2,.val tI),(4,.val (.clo 220 .unit)),(10,.val tI)],[],[.rowC 10250000 261 aZ],fun _=>0⟩)]
noncomputable def de:aK:=⟨[.mrow 261 aZ,.val tI,.val tI,.val tI,.val (.clo 220 .unit)],[],fun x=>gH x.1 x.2.1 x.2.2.1 x.2.2.2.1 x.2.2.2.2.1⟩
noncomputable def n7:Cx:=⟨Tryz.prog,[(244,cO)]⟩
theorem wJ:∀ x,aU n7 mw none Tryz.f243 de x=de.m x:=by intro x;kernel_rfl
theorem xd:aB Tryz.prog 243:=ax (fn:=Tryz.f243) (by kernel_rfl) rfl (by decide)
theorem xh:aN Tryz.prog 243 de:=aI (X:=n7) (.cons vm vq (.nil _)) (by kernel_rfl) de mw none (by kernel_rfl) (fun x y h=>(wJ x).trans h)
def lE:List (Nat×Ann):=[(3,⟨[(0,.rowR 10250000),(1,.val tI),(4,.val (.clo 220 .unit)),(10,.val tI),(11,.val tI)],[],[.rowC 10250000 261 aZ],aT _⟩),
 (9,⟨[(0,.rowR 10250000),(10,.val tI),(13,.val tI)],[],[.rowC 10250000 261 aZ],aT _⟩),
 (15,⟨[(0,.rowR 10250000),(2,.val tI),(4,.val (.clo 220 .unit)),(14,.val tI),(15,.val tI)],[],[.rowC 10250000 261 aZ],aT _⟩),
 (21,⟨[(0,.rowR 10250000),(14,.val tI),(17,.val tI)],[],[.rowC 10250000 261 aZ],aT _⟩),
 (33,⟨[(0,.rowR 10250000),(1,.val tI),(2,.val tI),(3,.val tI),(4,.val (.clo 220 .unit)),(18,.val tI),(19,.val tI),(20,.val tI),(21,.val tI),(22,.val tI)],[],[.rowC 10250000 261 aZ],aT _⟩),
 (100030,⟨[(0,.rowR 10250000),(1,.val tI),(2,.val tI),(3,.val tI),(4,.val (.clo 220 .unit)),(18,.val tI),(19,.val tI),(20,.val tI),(21,.val tI)],[],[.rowC 10250000 261 aZ],fun _=>0⟩),
 (100040,⟨[(0,.rowR 10250000),(1,.val tI),(3,.val tI),(4,.val (.clo 220 .unit)),(18,.val tI),(20,.val tI),(24,.val tI)],[],[.rowC 10250000 261 aZ],fun _=>0⟩),
 (100042,⟨[(0,.rowR 10250000),(3,.val tI),(4,.val (.clo 220 .unit)),(18,.val tI),(24,.val tI)],[],[.rowC 10250000 261 aZ],fun _=>0⟩),
 (200003,⟨[(0,.rowR 10250000),(1,.val tI),(10,.val tI)],[],[.rowC 10250000 261 aZ],fun _=>0⟩),
 (200009,⟨[],[],[.rowC 10250000 261 aZ],fun _=>0⟩),
 (200015,⟨[(0,.rowR 10250000),(2,.val tI),(14,.val tI)],[],[.rowC 10250000 261 aZ],fun _=>0⟩),
 (200021,⟨[],[],[.rowC 10250000 261 aZ],fun _=>0⟩),
 (200033,⟨[(0,.rowR 10250000),(1,.val tI),(2,.val tI),(3,.val tI),(4,.val (.clo 220 .unit)),(18,.val tI),(19,.val tI),(20,.val tI)],[],[.rowC 10250000 261 aZ],fun _=>0⟩)]
def bM:List PM:=[.mrow 261 aZ,.val tI,.val tI,.val tI,.val (.clo 220 .unit)]
def b7:List RM:=[]
noncomputable def lV:List (Nat×aK):=[(220,kX),(243,de)]
noncomputable def mI:aK:=⟨bM,b7,fun x=>dD x.1 x.2.1 x.2.2.1 x.2.2.2.1 x.2.2.2.2.1⟩
theorem uX:∀ (self:gE bM→Option (dO bM b7)) (x:gE bM),aU ⟨Tryz.prog,(242,⟨bM,b7,self⟩)::lV⟩ lE none Tryz.f242 ⟨bM,b7,fun x=>bX self x.1 x.2.1 x.2.2.1 x.2.2.2.1 x.2.2.2.2.1⟩ x=bX self x.1 x.2.1 x.2.2.1 x.2.2.2.1 x.2.2.2.2.1:=by intro self x;kernel_rfl
theorem mz:aB Tryz.prog 242:=ax (fn:=Tryz.f242) (by kernel_rfl) rfl (by decide)
theorem vL:aN Tryz.prog 242 mI:=RF (ps:=bM) (rs:=b7) (m:=fun n x=>Em (fun self x=>bX self x.1 x.2.1 x.2.2.1 x.2.2.2.1 x.2.2.2.2.1) n x) (My (P:=Tryz.prog) (specs:=lV) (ps:=bM) (rs:=b7) (.cons FX FH (.cons xh xd (.nil _))) (by kernel_rfl) (fun self x=>bX self x.1 x.2.1 x.2.2.1 x.2.2.2.1 x.2.2.2.2.1) lE none (by kernel_rfl) mz uX) (fun x=>gN x.1 x.2.1 x.2.2.1 x.2.2.2.1 x.2.2.2.2.1)
def mK:List (Nat×Ann):=[(2,⟨[(0,.rowR 10250000),(1,.val tI),(2,.val (.clo 220 .unit)),(6,.val tI),(7,.val tI),(8,.val tI)],[],[.rowC 10250000 261 aZ],aT _⟩),
 (7,⟨[(0,.rowR 10250000),(1,.val tI),(2,.val (.clo 220 .unit)),(6,.val tI)],[],[.rowC 10250000 261 aZ],aT _⟩),
 (9,⟨[(0,.rowR 10250000),(1,.val tI),(2,.val (.clo 220 .unit)),(6,.val tI),(7,.val tI),(8,.val tI)],[],[.rowC 10250000 261 aZ],aT _⟩),
 (200002,⟨[(0,.rowR 10250000),(1,.val tI),(2,.val (.clo 220 .unit)),(6,.val tI),(7,.val tI)],[],[.rowC 10250000 261 aZ],fun _=>0⟩),
 (200007,⟨[],[],[.rowC 10250000 261 aZ],fun _=>0⟩),
 (200009,⟨[(0,.rowR 10250000),(1,.val tI),(2,.val (.clo 220 .unit)),(6,.val tI),(7,.val tI)],[],[.rowC 10250000 261 aZ],fun _=>0⟩)]
noncomputable def dh:aK:=⟨[.mrow 261 aZ,.val tI,.val (.clo 220 .unit)],[],fun x=>jW x.1 x.2.1 x.2.2.1⟩
noncomputable def nU:Cx:=⟨Tryz.prog,[(241,cl),(242,mI)]⟩
theorem wL:∀ x,aU nU mK none Tryz.f234 dh x=dh.m x:=by intro x;kernel_rfl
theorem xZ:aB Tryz.prog 234:=ax (fn:=Tryz.f234) (by kernel_rfl) rfl (by decide)
theorem wV:aN Tryz.prog 234 dh:=aI (X:=nU) (.cons sw sA (.cons vL mz (.nil _))) (by kernel_rfl) dh mK none (by kernel_rfl) (fun x y h=>(wL x).trans h)
def lY:List (Nat×Ann):=[]
noncomputable def cW:aK:=⟨[.mrow 261 aZ,.val (.clo 220 .unit)],[],fun x=>dN x.1 x.2.1⟩
noncomputable def nc:Cx:=⟨Tryz.prog,[(234,dh)]⟩
theorem vM:∀ x,aU nc lY none Tryz.f219 cW x=cW.m x:=by intro x;kernel_rfl
theorem wK:aB Tryz.prog 219:=ax (fn:=Tryz.f219) (by kernel_rfl) rfl (by decide)
theorem wD:aN Tryz.prog 219 cW:=aI (X:=nc) (.cons wV xZ (.nil _)) (by kernel_rfl) cW lY none (by kernel_rfl) (fun x y h=>(vM x).trans h)
def FG:List (Nat×Ann):=[(9,⟨[(1,.val (.slice tI)),(2,.ref 2 0),(8,.val tI),(33,.val (.slice tI)),(34,.val tI),(35,.val tI)],[(2,qz)],[],aT _⟩),
 (17,⟨[(2,.ref 2 0),(8,.val tI),(11,.val tI),(12,.val tI),(13,.own 261 aZ),(50,.val (.slice tI)),(51,.val tI),(52,.val tI)],[(2,qz)],[],aT _⟩),
 (27,⟨[(2,.ref 2 0),(12,.val tI),(20,.rowR 88),(89,.own 261 aZ),(90,.val tI),(91,.val tI)],[(2,qz)],[.rowC 88 33 aR],aT _⟩),
 (100030,⟨[(2,.ref 2 0),(12,.val tI),(20,.rowR 88),(22,.ref 22 0),(89,.own 261 aZ),(90,.val tI),(91,.val tI)],[(2,qz),(22,[.val tI,.val tI,.val .bool,.val (.slice (.int .u32))])],[.rowC 88 33 aR],fun _=>0⟩),
 (100032,⟨[(2,.ref 2 0),(12,.val tI),(20,.rowR 88),(22,.ref 22 0),(89,.own 261 aZ),(90,.val tI),(91,.val tI)],[(2,qz),(22,[.val tI,.val tI,.val .bool,.val (.slice (.int .u32))])],[.rowC 88 33 aR],fun _=>0⟩),
 (200009,⟨[(1,.val (.slice tI)),(2,.ref 2 0),(8,.val tI)],[(2,qz)],[],fun _=>0⟩),
 (200017,⟨[(2,.ref 2 0),(12,.val tI),(13,.own 261 aZ)],[(2,qz)],[],fun _=>0⟩),
 (200027,⟨[(20,.rowR 88)],[],[.rowC 88 33 aR],fun _=>0⟩)]
noncomputable def qk:aK:=⟨[.val aR,.val (.slice tI)],[.val (.slice aR),.val tI],fun x=>u7 x.1 x.2.1⟩
noncomputable def Iy:Cx:=⟨Tryz.prog,[(102,cD),(127,fU),(137,je),(143,fP),(195,lD),(218,jY),(219,cW)]⟩
theorem Q9:∀ x,aU Iy FG none Tryz.f189 qk x=qk.m x:=by intro x;kernel_rfl
theorem SD:aB Tryz.prog 189:=ax (fn:=Tryz.f189) (by kernel_rfl) rfl (by decide)
theorem Sd:aN Tryz.prog 189 qk:=aI (X:=Iy) (.cons gZ hJ (.cons j7 j8 (.cons uT uD (.cons nD nM (.cons C5 B4 (.cons KH Kl (.cons wD wK (.nil _)))))))) (by kernel_rfl) qk FG none (by kernel_rfl) (fun x y h=>(Q9 x).trans h)
def zQ:List (Nat×Ann):=[(4,⟨[(0,.ref 2000 0),(3,.ref 3 0),(5,.own 3 tI),(6,.val .bool),(20,.val (.slice aq)),(21,.val tI),(22,.val tI)],[(3,kH),(2000,Qk)],[.rowC 10250002 135 aq,.rowC 10250004 135 aq,.rowC 10250005 186 cT,.rowC 10250006 135 aq,.rowC 10250007 4 .bool,.rowC 10250008 135 aq],aT _⟩),
 (21,⟨[(0,.ref 2000 0),(84,.val (.slice aR)),(85,.val tI),(86,.val tI)],[(2000,WI)],[],aT _⟩),
 (200004,⟨[(0,.ref 2000 0),(3,.ref 3 0),(5,.own 3 tI),(6,.val .bool)],[(3,kH),(2000,Qk)],[.rowC 10250002 135 aq,.rowC 10250004 135 aq,.rowC 10250005 186 cT,.rowC 10250006 135 aq,.rowC 10250007 4 .bool,.rowC 10250008 135 aq],fun _=>0⟩),
 (200021,⟨[],[(2000,WI)],[],fun _=>0⟩)]
noncomputable def lF:aK:=⟨[.box [.val bw,.row 135 aq,.val (.slice aq),.row 135 aq,.row 186 cT,.row 135 aq,.row 4 .bool,.row 135 aq],.val aq],[.val tI],fun x=>hY x.1 x.2.1⟩
noncomputable def BS:Cx:=⟨Tryz.prog,[(86,mY),(127,fU),(128,jN),(137,je),(158,ic),(186,qq),(187,gS),(189,qk)]⟩
theorem LO:∀ x,aU BS zQ none Tryz.f129 lF x=lF.m x:=by intro x;kernel_rfl
theorem Mu:aB Tryz.prog 129:=ax (fn:=Tryz.f129) (by kernel_rfl) rfl (by decide)
theorem MA:aN Tryz.prog 129 lF:=aI (X:=BS) (.cons DQ D2 (.cons j7 j8 (.cons DL Dl (.cons uT uD (.cons sO sB (.cons Sm SI (.cons Gm Gy (.cons Sd SD (.nil _))))))))) (by kernel_rfl) lF zQ none (by kernel_rfl) (fun x y h=>(LO x).trans h)
def Bq:List (Nat×Ann):=[(6,⟨[(0,.ref 2000 0),(3,.ref 3 0),(5,.ref 5 0),(6,.val tI),(7,.val .bool),(35,.val (.slice aq)),(36,.val tI),(37,.val tI)],[(3,Uv),(5,kH),(2000,Qk)],[.rowC 10250002 135 aq,.rowC 10250004 135 aq,.rowC 10250005 186 cT,.rowC 10250006 135 aq,.rowC 10250007 4 .bool,.rowC 10250008 135 aq],aT _⟩),
 (100005,⟨[(0,.ref 2000 0),(3,.ref 3 0),(5,.ref 5 0),(6,.val tI),(7,.val .bool)],[(3,Uv),(5,kH),(2000,Qk)],[.rowC 10250002 135 aq,.rowC 10250004 135 aq,.rowC 10250005 186 cT,.rowC 10250006 135 aq,.rowC 10250007 4 .bool,.rowC 10250008 135 aq],fun _=>0⟩),
 (100012,⟨[(0,.ref 2000 0),(6,.val tI),(7,.val .bool),(10,.ref 10 0)],[(10,kH),(2000,Qk)],[.rowC 10250002 135 aq,.rowC 10250004 135 aq,.rowC 10250005 186 cT,.rowC 10250006 135 aq,.rowC 10250007 4 .bool,.rowC 10250008 135 aq],fun _=>0⟩),
 (200006,⟨[(0,.ref 2000 0),(3,.ref 3 0),(5,.ref 5 0),(6,.val tI),(7,.val .bool)],[(3,Uv),(5,kH),(2000,Qk)],[.rowC 10250002 135 aq,.rowC 10250004 135 aq,.rowC 10250005 186 cT,.rowC 10250006 135 aq,.rowC 10250007 4 .bool,.rowC 10250008 135 aq],fun _=>0⟩)]
noncomputable def mq:aK:=⟨[.box [.val bw,.row 135 aq,.val (.slice aq),.row 135 aq,.row 186 cT,.row 135 aq,.row 4 .bool,.row 135 aq],.val cQ],[.val tI],fun x=>mN x.1 x.2.1⟩
noncomputable def DH:Cx:=⟨Tryz.prog,[(71,cJ),(72,dI),(74,jd),(88,m6),(89,pR),(124,mR),(127,fU),(128,jN),(129,lF)]⟩
theorem Ml:∀ x,aU DH Bq none Tryz.f68 mq x=mq.m x:=by intro x;kernel_rfl
theorem Oh:aB Tryz.prog 68:=ax (fn:=Tryz.f68) (by kernel_rfl) rfl (by decide)
theorem N7:aN Tryz.prog 68 mq:=aI (X:=DH) (.cons gm gq (.cons yY yR (.cons p9 qi (.cons HM IG (.cons IT Iq (.cons DR Ec (.cons j7 j8 (.cons DL Dl (.cons MA Mu (.nil _)))))))))) (by kernel_rfl) mq Bq none (by kernel_rfl) (fun x y h=>(Ml x).trans h)
def Du:List (Nat×Ann):=[(3,⟨[(0,.ref 2000 0),(20,.val (.slice dS)),(21,.val tI),(22,.val tI)],[(2000,WD)],[.rowC 13 135 aq,.rowC 10250002 135 aq,.rowC 10250004 135 aq,.rowC 10250005 186 cT,.rowC 10250006 135 aq,.rowC 10250007 4 .bool],aT _⟩),
 (9,⟨[(0,.ref 2000 0),(57,.rowR 10250005),(58,.val tI),(59,.val tI)],[(2000,WD)],[.rowC 13 135 aq,.rowC 10250002 135 aq,.rowC 10250004 135 aq,.rowC 10250005 186 cT,.rowC 10250006 135 aq,.rowC 10250007 4 .bool],aT _⟩),
 (200003,⟨[(0,.ref 2000 0)],[(2000,WD)],[.rowC 13 135 aq,.rowC 10250002 135 aq,.rowC 10250004 135 aq,.rowC 10250005 186 cT,.rowC 10250006 135 aq,.rowC 10250007 4 .bool],fun _=>0⟩),
 (200009,⟨[(0,.ref 2000 0)],[(2000,WD)],[.rowC 13 135 aq,.rowC 10250002 135 aq,.rowC 10250004 135 aq,.rowC 10250005 186 cT,.rowC 10250006 135 aq,.rowC 10250007 4 .bool],fun _=>0⟩)]
noncomputable def oU:aK:=⟨[.box [.val bw,.row 135 aq,.val (.slice aq),.row 135 aq,.row 186 cT,.row 135 aq,.row 4 .bool,.row 135 aq]],[.val tI],fun x=>yh x.1⟩
noncomputable def GV:Cx:=⟨Tryz.prog,[(71,cJ),(72,dJ),(89,pR)]⟩
theorem O9:∀ x,aU GV Du none Tryz.f69 oU x=oU.m x:=by intro x;kernel_rfl
theorem Rk:aB Tryz.prog 69:=ax (fn:=Tryz.f69) (by kernel_rfl) rfl (by decide)
theorem Rb:aN Tryz.prog 69 oU:=aI (X:=GV) (.cons gm gq (.cons zl zh (.cons IT Iq (.nil _)))) (by kernel_rfl) oU Du none (by kernel_rfl) (fun x y h=>(O9 x).trans h)
def Dm:List (Nat×Ann):=[(9,⟨[(5,.ref 18 0),(25,.val (.slice cQ)),(26,.val tI),(27,.val tI)],[(18,WI)],[.ar gV],aT _⟩),
 (200009,⟨[(5,.ref 18 0)],[(18,WI)],[.ar gV],fun _=>0⟩)]
noncomputable def lR:aK:=⟨[.val bw,.ar gV],[.val .hnd,.val tI],fun x=>kM x.1 x.2.1⟩
noncomputable def GS:Cx:=⟨Tryz.prog,[(37,lI),(67,kL),(68,mq),(69,oU)]⟩
theorem Qg:∀ x,aU GS Dm none Tryz.f28 lR x=lR.m x:=by intro x;kernel_rfl
theorem G4:aB Tryz.prog 28:=ax (fn:=Tryz.f28) (by kernel_rfl) rfl (by decide)
theorem GF:aN Tryz.prog 28 lR:=aI (X:=GS) (.cons MH Nb (.cons LZ LH (.cons N7 Oh (.cons Rb Rk (.nil _))))) (by kernel_rfl) lR Dm none (by kernel_rfl) (fun x y h=>(Qg x).trans h)
def N0:List (Nat×Ann):=[(3,⟨[(2,.ref 2 0),(3,.ref 3 0),(7,.val (.slice aq)),(8,.val tI),(9,.val tI)],[(2,yT),(3,kH)],[],aT _⟩),
 (200003,⟨[(2,.ref 2 0),(3,.ref 3 0)],[(2,yT),(3,kH)],[],fun _=>0⟩)]
noncomputable def zX:aK:=⟨[.val (.slice aq)],[.val aq],fun x=>Ef x.1⟩
noncomputable def Rt:Cx:=⟨Tryz.prog,[(71,cJ),(127,fU)]⟩
theorem Xg:∀ x,aU Rt N0 none Tryz.f70 zX x=zX.m x:=by intro x;kernel_rfl
theorem YR:aB Tryz.prog 70:=ax (fn:=Tryz.f70) (by kernel_rfl) rfl (by decide)
theorem Y2:aN Tryz.prog 70 zX:=aI (X:=Rt) (.cons gm gq (.cons j7 j8 (.nil _))) (by kernel_rfl) zX N0 none (by kernel_rfl) (fun x y h=>(Xg x).trans h)
def C3:List (Nat×Ann):=[]
noncomputable def kU:aK:=⟨[.val .hnd,.val aq,.arR gV],[.val aR],fun x=>gG x.1 x.2.1 x.2.2.1⟩
noncomputable def FJ:Cx:=⟨Tryz.prog,[(86,mY)]⟩
theorem N8:∀ x,aU FJ C3 none Tryz.f75 kU x=kU.m x:=by intro x;kernel_rfl
theorem Fh:aB Tryz.prog 75:=ax (fn:=Tryz.f75) (by kernel_rfl) rfl (by decide)
theorem Fg:aN Tryz.prog 75 kU:=aI (X:=FJ) (.cons DQ D2 (.nil _)) (by kernel_rfl) kU C3 none (by kernel_rfl) (fun x y h=>(N8 x).trans h)
def zW:List (Nat×Ann):=[]
noncomputable def jk:aK:=⟨[.val .hnd,.arR gV],[.val Iw,.val tI],fun x=>oW x.1 x.2.1⟩
noncomputable def CY:Cx:=⟨Tryz.prog,[(70,zX),(71,cJ),(72,dK),(75,kU)]⟩
theorem K4:∀ x,aU CY zW none Tryz.f29 jk x=jk.m x:=by intro x;kernel_rfl
theorem Ct:aB Tryz.prog 29:=ax (fn:=Tryz.f29) (by kernel_rfl) rfl (by decide)
theorem C2:aN Tryz.prog 29 jk:=aI (X:=CY) (.cons Y2 YR (.cons gm gq (.cons yW yU (.cons Fg Fh (.nil _))))) (by kernel_rfl) jk zW none (by kernel_rfl) (fun x y h=>(K4 x).trans h)
def Cq:List (Nat×Ann):=[(3,⟨[(0,.val .hnd),(3,.own 35 gU),(10,.val (.slice dS)),(11,.val tI),(12,.val tI)],[],[.arF gV],aT _⟩),
 (200003,⟨[(3,.own 35 gU)],[],[.arF gV],fun _=>0⟩)]
noncomputable def nX:aK:=⟨[.val .hnd,.arR gV],[.row 35 gU],fun x=>vY x.1 x.2.1⟩
noncomputable def Fs:Cx:=⟨Tryz.prog,[(75,kU)]⟩
theorem Of:∀ x,aU Fs Cq none Tryz.f30 nX x=nX.m x:=by intro x;kernel_rfl
theorem P4:aB Tryz.prog 30:=ax (fn:=Tryz.f30) (by kernel_rfl) rfl (by decide)
theorem Pv:aN Tryz.prog 30 nX:=aI (X:=Fs) (.cons Fg Fh (.nil _)) (by kernel_rfl) nX Cq none (by kernel_rfl) (fun x y h=>(Of x).trans h)
def Jv:List (Nat×Ann):=[]
noncomputable def u6:aK:=⟨[.val bw],[.val (.slice gU),.val tI],fun x=>Hu x.1⟩
noncomputable def Nj:Cx:=⟨Tryz.prog,[(28,lR),(29,jk),(30,nX)]⟩
theorem UY:∀ x,aU Nj Jv (some gV) Tryz.f9 u6 x=u6.m x:=by intro x;kernel_rfl
theorem Wq:aB Tryz.prog 9:=ax (fn:=Tryz.f9) (by kernel_rfl) rfl (by decide)
theorem Wu:aN Tryz.prog 9 u6:=aI (X:=Nj) (.cons GF G4 (.cons C2 Ct (.cons Pv P4 (.nil _)))) (by kernel_rfl) u6 Jv (some gV) (by kernel_rfl) (fun x y h=>(UY x).trans h)
def LI:List (Nat×Ann):=[(4,⟨[(0,.val .str),(23,.val tI),(24,.val tI)],[],[],aT _⟩),
 (200004,⟨[],[],[],fun _=>0⟩)]
noncomputable def xH:aK:=⟨[.val .str],[.val .bool],fun x=>Ou x.1⟩
noncomputable def Pq:Cx:=⟨Tryz.prog,[]⟩
theorem Wn:∀ x,aU Pq LI none Tryz.f120 xH x=xH.m x:=by intro x;kernel_rfl
theorem X1:aB Tryz.prog 120:=ax (fn:=Tryz.f120) (by kernel_rfl) rfl (by decide)
theorem WY:aN Tryz.prog 120 xH:=aI (X:=Pq) (.nil _) (by kernel_rfl) xH LI none (by kernel_rfl) (fun x y h=>(Wn x).trans h)
def L3:List (Nat×Ann):=[]
noncomputable def tC:aK:=⟨[.val .str],[.val .bool],fun x=>pH x.1⟩
noncomputable def OK:Cx:=⟨Tryz.prog,[(120,xH)]⟩
theorem V7:∀ x,aU OK L3 none Tryz.f61 tC x=tC.m x:=by intro x;kernel_rfl
theorem P6:aB Tryz.prog 61:=ax (fn:=Tryz.f61) (by kernel_rfl) rfl (by decide)
theorem PC:aN Tryz.prog 61 tC:=aI (X:=OK) (.cons WY X1 (.nil _)) (by kernel_rfl) tC L3 none (by kernel_rfl) (fun x y h=>(V7 x).trans h)
def LJ:List (Nat×Ann):=[]
noncomputable def pW:aK:=⟨[.val tI,.val tI,.val tI],[.val .bool],fun x=>wX x.1 x.2.1 x.2.2.1⟩
noncomputable def PI:Cx:=⟨Tryz.prog,[]⟩
theorem VV:∀ x,aU PI LJ none Tryz.f119 pW x=pW.m x:=by intro x;kernel_rfl
theorem IM:aB Tryz.prog 119:=ax (fn:=Tryz.f119) (by kernel_rfl) rfl (by decide)
theorem HX:aN Tryz.prog 119 pW:=aI (X:=PI) (.nil _) (by kernel_rfl) pW LJ none (by kernel_rfl) (fun x y h=>(VV x).trans h)
def NV:List (Nat×Ann):=[]
noncomputable def zV:aK:=⟨[.val tI],[.val .bool],fun x=>SQ x.1⟩
noncomputable def Ry:Cx:=⟨Tryz.prog,[(119,pW)]⟩
theorem Xl:∀ x,aU Ry NV none Tryz.f138 zV x=zV.m x:=by intro x;kernel_rfl
theorem YE:aB Tryz.prog 138:=ax (fn:=Tryz.f138) (by kernel_rfl) rfl (by decide)
theorem Za:aN Tryz.prog 138 zV:=aI (X:=Ry) (.cons HX IM (.nil _)) (by kernel_rfl) zV NV none (by kernel_rfl) (fun x y h=>(Xl x).trans h)
def NU:List (Nat×Ann):=[]
noncomputable def z6:aK:=⟨[.val tI],[.val .bool],fun x=>Ms x.1⟩
noncomputable def R3:Cx:=⟨Tryz.prog,[(138,zV)]⟩
theorem Yz:∀ x,aU R3 NU none Tryz.f76 z6 x=z6.m x:=by intro x;kernel_rfl
theorem Zk:aB Tryz.prog 76:=ax (fn:=Tryz.f76) (by kernel_rfl) rfl (by decide)
theorem YZ:aN Tryz.prog 76 z6:=aI (X:=R3) (.cons Za YE (.nil _)) (by kernel_rfl) z6 NU none (by kernel_rfl) (fun x y h=>(Yz x).trans h)
def JQ:List (Nat×Ann):=[]
noncomputable def ox:aK:=⟨[.val tI,.val tI,.val tI],[.val .bool],fun x=>nu x.1 x.2.1 x.2.2.1⟩
noncomputable def NT:Cx:=⟨Tryz.prog,[]⟩
theorem U7:∀ x,aU NT JQ none Tryz.f65 ox x=ox.m x:=by intro x;kernel_rfl
theorem Gf:aB Tryz.prog 65:=ax (fn:=Tryz.f65) (by kernel_rfl) rfl (by decide)
theorem F5:aN Tryz.prog 65 ox:=aI (X:=NT) (.nil _) (by kernel_rfl) ox JQ none (by kernel_rfl) (fun x y h=>(U7 x).trans h)
def Cw:List (Nat×Ann):=[]
noncomputable def ja:aK:=⟨[.val aR],[.val tI],fun x=>lO x.1⟩
noncomputable def Fl:Cx:=⟨Tryz.prog,[(119,pW)]⟩
theorem N5:∀ x,aU Fl Cw none Tryz.f60 ja x=ja.m x:=by intro x;kernel_rfl
theorem xG:aB Tryz.prog 60:=ax (fn:=Tryz.f60) (by kernel_rfl) rfl (by decide)
theorem xB:aN Tryz.prog 60 ja:=aI (X:=Fl) (.cons HX IM (.nil _)) (by kernel_rfl) ja Cw none (by kernel_rfl) (fun x y h=>(N5 x).trans h)
def Te:List (Nat×Ann):=[(2,⟨[(0,.val tI),(2,.ref 2 0),(3,.ref 3 0)],[(2,iO),(3,iO)],[],aT _⟩),
 (200002,⟨[(2,.ref 2 0),(3,.ref 3 0)],[(2,iO),(3,iO)],[],fun _=>0⟩)]
noncomputable def oA:aK:=⟨[.val tI],[.val aW],fun x=>mg x.1⟩
noncomputable def XS:Cx:=⟨Tryz.prog,[]⟩
theorem abP:∀ x,aU XS Te none Tryz.f181 oA x=oA.m x:=by intro x;kernel_rfl
theorem x7:aB Tryz.prog 181:=ax (fn:=Tryz.f181) (by kernel_rfl) rfl (by decide)
theorem xz:aN Tryz.prog 181 oA:=aI (X:=XS) (.nil _) (by kernel_rfl) oA Te none (by kernel_rfl) (fun x y h=>(abP x).trans h)
def JE:List (Nat×Ann):=[(1,⟨[(1,.ref 1 0),(2,.ref 2 0)],[(1,l9),(2,iO)],[],aT _⟩),
 (200001,⟨[(1,.ref 1 0),(2,.ref 2 0)],[(1,l9),(2,iO)],[],fun _=>0⟩)]
noncomputable def oC:aK:=⟨[.val aW],[.val aW],fun x=>oZ x.1⟩
noncomputable def NJ:Cx:=⟨Tryz.prog,[]⟩
theorem UF:∀ x,aU NJ JE none Tryz.f215 oC x=oC.m x:=by intro x;kernel_rfl
theorem GC:aB Tryz.prog 215:=ax (fn:=Tryz.f215) (by kernel_rfl) rfl (by decide)
theorem Gc:aN Tryz.prog 215 oC:=aI (X:=NJ) (.nil _) (by kernel_rfl) oC JE none (by kernel_rfl) (fun x y h=>(UF x).trans h)
def JV:List (Nat×Ann):=[(3,⟨[(3,.ref 3 0),(4,.ref 4 0),(5,.ref 5 0),(27,.val (.slice tI)),(28,.val tI),(29,.val tI)],[(3,l9),(4,iO),(5,U9)],[.rowC 24 3 tI],aT _⟩),
 (6,⟨[(3,.ref 3 0),(4,.ref 4 0),(5,.ref 5 0),(6,.val tI),(7,.val tI),(27,.val (.slice tI)),(28,.val tI),(29,.val tI),(35,.val (.slice tI)),(36,.val tI),(37,.val tI)],[(3,l9),(4,iO),(5,U9)],[.rowC 24 3 tI],aT _⟩),
 (14,⟨[(4,.ref 4 0),(5,.ref 5 0),(86,.val tI),(87,.val tI)],[(4,iO),(5,U9)],[.rowC 24 3 tI],aT _⟩),
 (200003,⟨[(4,.ref 4 0),(5,.ref 5 0)],[(4,iO),(5,U9)],[.rowC 24 3 tI],fun _=>0⟩),
 (200006,⟨[(3,.ref 3 0),(4,.ref 4 0),(5,.ref 5 0),(27,.val (.slice tI)),(28,.val tI),(29,.val tI)],[(3,l9),(4,iO),(5,U9)],[.rowC 24 3 tI],fun _=>0⟩),
 (200014,⟨[(4,.ref 4 0),(5,.ref 5 0)],[(4,iO),(5,U9)],[.rowC 24 3 tI],fun _=>0⟩)]
noncomputable def gR:aK:=⟨[.val aW,.val aW],[.val aW],fun x=>gO x.1 x.2.1⟩
noncomputable def Nx:Cx:=⟨Tryz.prog,[(215,oC)]⟩
theorem Uz:∀ x,aU Nx JV none Tryz.f180 gR x=gR.m x:=by intro x;kernel_rfl
theorem oF:aB Tryz.prog 180:=ax (fn:=Tryz.f180) (by kernel_rfl) rfl (by decide)
theorem oB:aN Tryz.prog 180 gR:=aI (X:=Nx) (.cons Gc GC (.nil _)) (by kernel_rfl) gR JV none (by kernel_rfl) (fun x y h=>(Uz x).trans h)
def NR:List (Nat×Ann):=[(3,⟨[(2,.ref 2 0),(3,.ref 3 0),(5,.val tI),(6,.val tI)],[(2,iO),(3,l9)],[],aT _⟩),
 (200003,⟨[(2,.ref 2 0),(3,.ref 3 0)],[(2,iO),(3,l9)],[],fun _=>0⟩)]
noncomputable def se:aK:=⟨[.val tI],[.val aW],fun x=>wQ x.1⟩
noncomputable def Ru:Cx:=⟨Tryz.prog,[(180,gR),(181,oA)]⟩
theorem W4:∀ x,aU Ru NR none Tryz.f182 se x=se.m x:=by intro x;kernel_rfl
theorem Ko:aB Tryz.prog 182:=ax (fn:=Tryz.f182) (by kernel_rfl) rfl (by decide)
theorem Kh:aN Tryz.prog 182 se:=aI (X:=Ru) (.cons oB oF (.cons xz x7 (.nil _))) (by kernel_rfl) se NR none (by kernel_rfl) (fun x y h=>(W4 x).trans h)
def Tj:List (Nat×Ann):=[]
noncomputable def Er:aK:=⟨[.val aR,.val tI],[.val aW],fun x=>J2 x.1 x.2.1⟩
noncomputable def X6:Cx:=⟨Tryz.prog,[(180,gR),(181,oA),(182,se)]⟩
theorem abD:∀ x,aU X6 Tj none Tryz.f122 Er x=Er.m x:=by intro x;kernel_rfl
theorem Ya:aB Tryz.prog 122:=ax (fn:=Tryz.f122) (by kernel_rfl) rfl (by decide)
theorem Yb:aN Tryz.prog 122 Er:=aI (X:=X6) (.cons oB oF (.cons xz x7 (.cons Kh Ko (.nil _)))) (by kernel_rfl) Er Tj none (by kernel_rfl) (fun x y h=>(abD x).trans h)
def Nz:List (Nat×Ann):=[]
noncomputable def sd:aK:=⟨[.val aW],[.val aW],fun x=>uJ x.1⟩
noncomputable def Rw:Cx:=⟨Tryz.prog,[]⟩
theorem XK:∀ x,aU Rw Nz none Tryz.f179 sd x=sd.m x:=by intro x;kernel_rfl
theorem KT:aB Tryz.prog 179:=ax (fn:=Tryz.f179) (by kernel_rfl) rfl (by decide)
theorem Ky:aN Tryz.prog 179 sd:=aI (X:=Rw) (.nil _) (by kernel_rfl) sd Nz none (by kernel_rfl) (fun x y h=>(XK x).trans h)
def Nh:List (Nat×Ann):=[(4,⟨[(0,.val (.slice tI)),(1,.val (.slice tI)),(5,.val tI)],[],[],aT _⟩),
 (200004,⟨[],[],[],fun _=>0⟩)]
noncomputable def vF:aK:=⟨[.val (.slice tI),.val (.slice tI)],[.val tI],fun x=>Ei x.1 x.2.1⟩
noncomputable def RD:Cx:=⟨Tryz.prog,[]⟩
theorem Xa:∀ x,aU RD Nh none Tryz.f213 vF x=vF.m x:=by intro x;kernel_rfl
theorem RI:aB Tryz.prog 213:=ax (fn:=Tryz.f213) (by kernel_rfl) rfl (by decide)
theorem RJ:aN Tryz.prog 213 vF:=aI (X:=RD) (.nil _) (by kernel_rfl) vF Nh none (by kernel_rfl) (fun x y h=>(Xa x).trans h)
def NM:List (Nat×Ann):=[]
noncomputable def vB:aK:=⟨[.val (.slice tI),.val tI],[.val tI],fun x=>xQ x.1 x.2.1⟩
noncomputable def RH:Cx:=⟨Tryz.prog,[]⟩
theorem Ym:∀ x,aU RH NM none Tryz.f214 vB x=vB.m x:=by intro x;kernel_rfl
theorem RU:aB Tryz.prog 214:=ax (fn:=Tryz.f214) (by kernel_rfl) rfl (by decide)
theorem RV:aN Tryz.prog 214 vB:=aI (X:=RH) (.nil _) (by kernel_rfl) vB NM none (by kernel_rfl) (fun x y h=>(Ym x).trans h)
def OQ:List (Nat×Ann):=[(7,⟨[(2,.ref 2 0),(3,.ref 3 0),(4,.ref 4 0),(5,.ref 5 0),(6,.val tI),(31,.val tI),(32,.val tI)],[(2,l9),(3,l9),(4,iO),(5,iO)],[],aT _⟩),
 (19,⟨[(2,.ref 2 0),(3,.ref 3 0),(4,.ref 4 0),(9,.ref 9 0),(10,.val tI),(70,.val tI),(71,.val tI)],[(2,l9),(3,l9),(4,iO),(9,iO)],[],aT _⟩),
 (100003,⟨[(2,.ref 2 0),(3,.ref 3 0),(4,.ref 4 0)],[(2,l9),(3,l9),(4,iO)],[],fun _=>0⟩),
 (100012,⟨[(2,.ref 2 0),(3,.ref 3 0),(4,.ref 4 0),(5,.ref 5 0),(6,.val tI),(8,.val tI),(31,.val tI),(32,.val tI)],[(2,l9),(3,l9),(4,iO),(5,iO)],[],fun _=>0⟩),
 (200007,⟨[(4,.ref 4 0),(5,.ref 5 0)],[(4,iO),(5,iO)],[],fun _=>0⟩),
 (200019,⟨[(4,.ref 4 0),(9,.ref 9 0)],[(4,iO),(9,iO)],[],fun _=>0⟩)]
noncomputable def uB:aK:=⟨[.val aW,.val aW],[.val aW],fun x=>yx x.1 x.2.1⟩
noncomputable def TX:Cx:=⟨Tryz.prog,[(213,vF),(214,vB),(215,oC)]⟩
theorem Zz:∀ x,aU TX OQ none Tryz.f178 uB x=uB.m x:=by intro x;kernel_rfl
theorem M3:aB Tryz.prog 178:=ax (fn:=Tryz.f178) (by kernel_rfl) rfl (by decide)
theorem Nf:aN Tryz.prog 178 uB:=aI (X:=TX) (.cons RJ RI (.cons RV RU (.cons Gc GC (.nil _)))) (by kernel_rfl) uB OQ none (by kernel_rfl) (fun x y h=>(Zz x).trans h)
def Pd:List (Nat×Ann):=[]
noncomputable def uw:aK:=⟨[.val aW],[.val tI],fun x=>Bm x.1⟩
noncomputable def TE:Cx:=⟨Tryz.prog,[]⟩
theorem Zh:∀ x,aU TE Pd none Tryz.f177 uw x=uw.m x:=by intro x;kernel_rfl
theorem MM:aB Tryz.prog 177:=ax (fn:=Tryz.f177) (by kernel_rfl) rfl (by decide)
theorem Mv:aN Tryz.prog 177 uw:=aI (X:=TE) (.nil _) (by kernel_rfl) uw Pd none (by kernel_rfl) (fun x y h=>(Zh x).trans h)
def Rq:List (Nat×Ann):=[]
noncomputable def xw:aK:=⟨[.val aW,.val aW],[.val tI],fun x=>Ma x.1 x.2.1⟩
noncomputable def VC:Cx:=⟨Tryz.prog,[(177,uw),(178,uB),(179,sd)]⟩
theorem aal:∀ x,aU VC Rq none Tryz.f121 xw x=xw.m x:=by intro x;kernel_rfl
theorem PZ:aB Tryz.prog 121:=ax (fn:=Tryz.f121) (by kernel_rfl) rfl (by decide)
theorem PB:aN Tryz.prog 121 xw:=aI (X:=VC) (.cons Mv MM (.cons Nf M3 (.cons Ky KT (.nil _)))) (by kernel_rfl) xw Rq none (by kernel_rfl) (fun x y h=>(aal x).trans h)
def O0:List (Nat×Ann):=[]
noncomputable def C8:aK:=⟨[.val aR,.val aR],[.val tI],fun x=>Lp x.1 x.2.1⟩
noncomputable def TA:Cx:=⟨Tryz.prog,[(121,xw),(122,Er)]⟩
theorem Zu:∀ x,aU TA O0 none Tryz.f62 C8 x=C8.m x:=by intro x;kernel_rfl
theorem aaA:aB Tryz.prog 62:=ax (fn:=Tryz.f62) (by kernel_rfl) rfl (by decide)
theorem aaf:aN Tryz.prog 62 C8:=aI (X:=TA) (.cons PB PZ (.cons Yb Ya (.nil _))) (by kernel_rfl) C8 O0 none (by kernel_rfl) (fun x y h=>(Zu x).trans h)
def ND:List (Nat×Ann):=[]
noncomputable def so:aK:=⟨[.val aR,.val tI,.val tI,.val tI],[.val .bool],fun x=>mZ x.1 x.2.1 x.2.2.1 x.2.2.2.1⟩
noncomputable def Rp:Cx:=⟨Tryz.prog,[(60,ja),(62,C8)]⟩
theorem Yn:∀ x,aU Rp ND none Tryz.f77 so x=so.m x:=by intro x;kernel_rfl
theorem Kf:aB Tryz.prog 77:=ax (fn:=Tryz.f77) (by kernel_rfl) rfl (by decide)
theorem KU:aN Tryz.prog 77 so:=aI (X:=Rp) (.cons xB xG (.cons aaf aaA (.nil _))) (by kernel_rfl) so ND none (by kernel_rfl) (fun x y h=>(Yn x).trans h)
def JF:List (Nat×Ann):=[(2,⟨[(1,.val .str),(8,.val (.slice dS)),(9,.val tI),(10,.val tI)],[],[],aT _⟩),
 (200002,⟨[],[],[],fun _=>0⟩)]
noncomputable def lZ:aK:=⟨[.val bw,.val .str],[.val tI],fun x=>fJ x.1 x.2.1⟩
noncomputable def Nq:Cx:=⟨Tryz.prog,[]⟩
theorem Up:∀ x,aU Nq JF none Tryz.f81 lZ x=lZ.m x:=by intro x;kernel_rfl
theorem AN:aB Tryz.prog 81:=ax (fn:=Tryz.f81) (by kernel_rfl) rfl (by decide)
theorem AG:aN Tryz.prog 81 lZ:=aI (X:=Nq) (.nil _) (by kernel_rfl) lZ JF none (by kernel_rfl) (fun x y h=>(Up x).trans h)
def Cb:List (Nat×Ann):=[(4,⟨[(2,.val .bool),(3,.ref 3 0),(12,.val (.slice cQ)),(13,.val tI),(14,.val tI)],[(3,kC)],[],aT _⟩),
 (200004,⟨[],[],[],fun _=>0⟩)]
noncomputable def kY:aK:=⟨[.val bw,.val (.slice cQ),.val .bool],[.val tI],fun x=>lP x.1 x.2.1 x.2.2.1⟩
noncomputable def Fp:Cx:=⟨Tryz.prog,[(60,ja),(77,so),(81,lZ)]⟩
theorem Og:∀ x,aU Fp Cb none Tryz.f79 kY x=kY.m x:=by intro x;kernel_rfl
theorem FD:aB Tryz.prog 79:=ax (fn:=Tryz.f79) (by kernel_rfl) rfl (by decide)
theorem Fv:aN Tryz.prog 79 kY:=aI (X:=Fp) (.cons xB xG (.cons KU Kf (.cons AG AN (.nil _)))) (by kernel_rfl) kY Cb none (by kernel_rfl) (fun x y h=>(Og x).trans h)
def FN:List (Nat×Ann):=[]
noncomputable def p7:aK:=⟨[.val bw,.val tI],[.val tI],fun x=>vp x.1 x.2.1⟩
noncomputable def I8:Cx:=⟨Tryz.prog,[(61,tC),(65,ox),(77,so),(79,kY),(81,lZ)]⟩
theorem Rc:∀ x,aU I8 FN none Tryz.f78 p7 x=p7.m x:=by intro x;kernel_rfl
theorem Sf:aB Tryz.prog 78:=ax (fn:=Tryz.f78) (by kernel_rfl) rfl (by decide)
theorem Sy:aN Tryz.prog 78 p7:=aI (X:=I8) (.cons PC P6 (.cons F5 Gf (.cons KU Kf (.cons Fv FD (.cons AG AN (.nil _)))))) (by kernel_rfl) p7 FN none (by kernel_rfl) (fun x y h=>(Rc x).trans h)
def Bl:List (Nat×Ann):=[(12,⟨[(1,.ref 1 0),(45,.val (.slice dS)),(46,.val tI),(47,.val tI)],[(1,kC)],[],aT _⟩),
 (26,⟨[(1,.ref 1 0),(88,.val tI),(89,.val tI)],[(1,kC)],[],aT _⟩),
 (200012,⟨[(1,.ref 1 0)],[(1,kC)],[],fun _=>0⟩),
 (200026,⟨[(1,.ref 1 0)],[(1,kC)],[],fun _=>0⟩)]
noncomputable def jR:aK:=⟨[.val bw],[.val tI],fun x=>p8 x.1⟩
noncomputable def Dz:Cx:=⟨Tryz.prog,[(61,tC),(65,ox),(76,z6),(77,so),(78,p7),(79,kY)]⟩
theorem MP:∀ x,aU Dz Bl none Tryz.f31 jR x=jR.m x:=by intro x;kernel_rfl
theorem Dr:aB Tryz.prog 31:=ax (fn:=Tryz.f31) (by kernel_rfl) rfl (by decide)
theorem Ds:aN Tryz.prog 31 jR:=aI (X:=Dz) (.cons PC P6 (.cons F5 Gf (.cons YZ Zk (.cons KU Kf (.cons Sy Sf (.cons Fv FD (.nil _))))))) (by kernel_rfl) jR Bl none (by kernel_rfl) (fun x y h=>(MP x).trans h)
def Pt:List (Nat×Ann):=[(4,⟨[(1,.ref 1 0),(2,.ref 2 0),(4,.ref 4 0),(5,.val tI),(6,.val tI)],[(1,l9),(2,iO),(4,[.val .bool,.rowR 11])],[.rowC 11 3 tI],aT _⟩),
 (200004,⟨[(2,.ref 2 0),(4,.ref 4 0),(5,.val tI)],[(2,iO),(4,[.val .bool,.rowR 11])],[.rowC 11 3 tI],fun _=>0⟩)]
noncomputable def CT:aK:=⟨[.val aW],[.val aW,.val tI],fun x=>Ql x.1⟩
noncomputable def Tu:Cx:=⟨Tryz.prog,[(215,oC)]⟩
theorem YK:∀ x,aU Tu Pt none Tryz.f235 CT x=CT.m x:=by intro x;kernel_rfl
theorem aaW:aB Tryz.prog 235:=ax (fn:=Tryz.f235) (by kernel_rfl) rfl (by decide)
theorem aaE:aN Tryz.prog 235 CT:=aI (X:=Tu) (.cons Gc GC (.nil _)) (by kernel_rfl) CT Pt none (by kernel_rfl) (fun x y h=>(YK x).trans h)
def Mb:List (Nat×Ann):=[(3,⟨[(3,.ref 3 0),(4,.ref 4 0),(5,.ref 5 0),(6,.own 3 tI),(7,.ref 7 0)],[(3,l9),(4,iO),(5,iO),(7,l9)],[],fun x=>20*x.2.2.2.2.2.2.2.2.1.length+2⟩),
 (11,⟨[(3,.ref 3 0),(4,.ref 4 0),(5,.ref 5 0),(6,.own 3 tI),(10,.ref 10 0),(11,.ref 11 0),(12,.ref 12 0),(13,.val tI)],[(3,l9),(4,iO),(5,iO),(10,l9),(11,l9),(12,l9)],[],aT _⟩),
 (200003,⟨[(3,.ref 3 0),(4,.ref 4 0),(5,.ref 5 0),(6,.own 3 tI)],[(3,l9),(4,iO),(5,iO)],[],fun _=>0⟩),
 (200011,⟨[(4,.ref 4 0),(5,.ref 5 0),(10,.ref 10 0),(11,.ref 11 0)],[(4,iO),(5,iO),(10,l9),(11,l9)],[],fun _=>0⟩)]
noncomputable def tD:aK:=⟨[.val aW,.val aW],[.val aW,.val aW],fun x=>Fu x.1 x.2.1⟩
noncomputable def OZ:Cx:=⟨Tryz.prog,[(121,xw),(177,uw),(178,uB),(179,sd),(180,gR),(181,oA),(235,CT)]⟩
theorem Wv:∀ x,aU OZ Mb none Tryz.f222 tD x=tD.m x:=by intro x;kernel_rfl
theorem O1:aB Tryz.prog 222:=ax (fn:=Tryz.f222) (by kernel_rfl) rfl (by decide)
theorem Qd:aN Tryz.prog 222 tD:=aI (X:=OZ) (.cons PB PZ (.cons Mv MM (.cons Nf M3 (.cons Ky KT (.cons oB oF (.cons xz x7 (.cons aaE aaW (.nil _)))))))) (by kernel_rfl) tD Mb none (by kernel_rfl) (fun x y h=>(Wv x).trans h)
def N1:List (Nat×Ann):=[(100009,⟨[(6,.ref 6 0),(7,.val .bool),(8,.ref 8 0),(11,.val .bool)],[(6,iO),(8,l9)],[],fun _=>0⟩)]
noncomputable def zF:aK:=⟨[.val aW,.val aW,.val tI],[.val aW],fun x=>Me x.1 x.2.1 x.2.2.1⟩
noncomputable def RX:Cx:=⟨Tryz.prog,[(121,xw),(177,uw),(178,uB),(179,sd),(180,gR),(181,oA),(214,vB),(222,tD)]⟩
theorem Xi:∀ x,aU RX N1 none Tryz.f221 zF x=zF.m x:=by intro x;kernel_rfl
theorem Zb:aB Tryz.prog 221:=ax (fn:=Tryz.f221) (by kernel_rfl) rfl (by decide)
theorem Y3:aN Tryz.prog 221 zF:=aI (X:=RX) (.cons PB PZ (.cons Mv MM (.cons Nf M3 (.cons Ky KT (.cons oB oF (.cons xz x7 (.cons RV RU (.cons Qd O1 (.nil _))))))))) (by kernel_rfl) zF N1 none (by kernel_rfl) (fun x y h=>(Xi x).trans h)
def NX:List (Nat×Ann):=[(5,⟨[(2,.ref 2 0),(6,.val tI),(7,.val tI)],[(2,l9)],[],aT _⟩),
 (200005,⟨[(2,.ref 2 0),(6,.val tI)],[(2,l9)],[],fun _=>0⟩)]
noncomputable def rX:aK:=⟨[.val aW,.val tI],[.val tI,.val .bool],fun x=>A9 x.1 x.2.1⟩
noncomputable def RR:Cx:=⟨Tryz.prog,[(181,oA),(213,vF)]⟩
theorem Xn:∀ x,aU RR NX none Tryz.f192 rX x=rX.m x:=by intro x;kernel_rfl
theorem KV:aB Tryz.prog 192:=ax (fn:=Tryz.f192) (by kernel_rfl) rfl (by decide)
theorem KM:aN Tryz.prog 192 rX:=aI (X:=RR) (.cons xz x7 (.cons RJ RI (.nil _))) (by kernel_rfl) rX NX none (by kernel_rfl) (fun x y h=>(Xn x).trans h)
def HO:List (Nat×Ann):=[]
noncomputable def pJ:aK:=⟨[.val bw,.val aW,.val aW],[.val tI,.val .bool],fun x=>zK x.1 x.2.1 x.2.2.1⟩
noncomputable def LC:Cx:=⟨Tryz.prog,[(192,rX),(221,zF)]⟩
theorem T8:∀ x,aU LC HO none Tryz.f191 pJ x=pJ.m x:=by intro x;kernel_rfl
theorem Ll:aB Tryz.prog 191:=ax (fn:=Tryz.f191) (by kernel_rfl) rfl (by decide)
theorem LR:aN Tryz.prog 191 pJ:=aI (X:=LC) (.cons KM KV (.cons Y3 Zb (.nil _))) (by kernel_rfl) pJ HO none (by kernel_rfl) (fun x y h=>(T8 x).trans h)
def K5:List (Nat×Ann):=[]
noncomputable def wY:aK:=⟨[.val bw,.val dX],[.val tI,.val .bool],fun x=>Jx x.1 x.2.1⟩
noncomputable def PJ:Cx:=⟨Tryz.prog,[(180,gR),(181,oA),(182,se),(191,pJ)]⟩
theorem Wb:∀ x,aU PJ K5 none Tryz.f139 wY x=wY.m x:=by intro x;kernel_rfl
theorem YD:aB Tryz.prog 139:=ax (fn:=Tryz.f139) (by kernel_rfl) rfl (by decide)
theorem W3:aN Tryz.prog 139 wY:=aI (X:=PJ) (.cons oB oF (.cons xz x7 (.cons Kh Ko (.cons LR Ll (.nil _))))) (by kernel_rfl) wY K5 none (by kernel_rfl) (fun x y h=>(Wb x).trans h)
def HJ:List (Nat×Ann):=[]
noncomputable def pM:aK:=⟨[.val bw,.val tI,.val aR],[.val tI,.val .bool],fun x=>pG x.1 x.2.1 x.2.2.1⟩
noncomputable def LF:Cx:=⟨Tryz.prog,[(180,gR),(181,oA),(182,se),(191,pJ)]⟩
theorem TS:∀ x,aU LF HJ none Tryz.f142 pM x=pM.m x:=by intro x;kernel_rfl
theorem Lx:aB Tryz.prog 142:=ax (fn:=Tryz.f142) (by kernel_rfl) rfl (by decide)
theorem Mc:aN Tryz.prog 142 pM:=aI (X:=LF) (.cons oB oF (.cons xz x7 (.cons Kh Ko (.cons LR Ll (.nil _))))) (by kernel_rfl) pM HJ none (by kernel_rfl) (fun x y h=>(TS x).trans h)
def J8:List (Nat×Ann):=[]
noncomputable def qO:aK:=⟨[.val bw,.val cQ,.val tI],[.val tI,.val .bool],fun x=>B8 x.1 x.2.1 x.2.2.1⟩
noncomputable def NH:Cx:=⟨Tryz.prog,[(122,Er),(142,pM),(192,rX)]⟩
theorem Uy:∀ x,aU NH J8 none Tryz.f140 qO x=qO.m x:=by intro x;kernel_rfl
theorem NN:aB Tryz.prog 140:=ax (fn:=Tryz.f140) (by kernel_rfl) rfl (by decide)
theorem NF:aN Tryz.prog 140 qO:=aI (X:=NH) (.cons Yb Ya (.cons Mc Lx (.cons KM KV (.nil _)))) (by kernel_rfl) qO J8 none (by kernel_rfl) (fun x y h=>(Uy x).trans h)
def GW:List (Nat×Ann):=[]
noncomputable def jI:aK:=⟨[.val tI],[.val .bool],fun x=>nR x.1⟩
noncomputable def JZ:Cx:=⟨Tryz.prog,[(65,ox)]⟩
theorem SO:∀ x,aU JZ GW none Tryz.f82 jI x=jI.m x:=by intro x;kernel_rfl
theorem vU:aB Tryz.prog 82:=ax (fn:=Tryz.f82) (by kernel_rfl) rfl (by decide)
theorem vW:aN Tryz.prog 82 jI:=aI (X:=JZ) (.cons F5 Gf (.nil _)) (by kernel_rfl) jI GW none (by kernel_rfl) (fun x y h=>(SO x).trans h)
def O2:List (Nat×Ann):=[(6,⟨[(2,.ref 2 0),(6,.val tI),(8,.val tI),(23,.val (.slice cQ)),(24,.val tI),(25,.val tI)],[(2,kC)],[],aT _⟩),
 (200006,⟨[(8,.val tI)],[],[],fun _=>0⟩)]
noncomputable def CN:aK:=⟨[.val bw,.val dX],[.val tI,.val .bool],fun x=>QL x.1 x.2.1⟩
noncomputable def Tr:Cx:=⟨Tryz.prog,[(82,jI),(139,wY),(140,qO)]⟩
theorem YY:∀ x,aU Tr O2 none Tryz.f80 CN x=CN.m x:=by intro x;kernel_rfl
theorem aaB:aB Tryz.prog 80:=ax (fn:=Tryz.f80) (by kernel_rfl) rfl (by decide)
theorem aan:aN Tryz.prog 80 CN:=aI (X:=Tr) (.cons vW vU (.cons W3 YD (.cons NF NN (.nil _)))) (by kernel_rfl) CN O2 none (by kernel_rfl) (fun x y h=>(YY x).trans h)
def BG:List (Nat×Ann):=[]
noncomputable def mA:aK:=⟨[.val (.slice tI)],[.row 3 tI],fun x=>uu x.1⟩
noncomputable def Dq:Cx:=⟨Tryz.prog,[]⟩
theorem M9:∀ x,aU Dq BG none Tryz.f83 mA x=mA.m x:=by intro x;kernel_rfl
theorem Oj:aB Tryz.prog 83:=ax (fn:=Tryz.f83) (by kernel_rfl) rfl (by decide)
theorem Oe:aN Tryz.prog 83 mA:=aI (X:=Dq) (.nil _) (by kernel_rfl) mA BG none (by kernel_rfl) (fun x y h=>(M9 x).trans h)
def PU:List (Nat×Ann):=[]
noncomputable def B9:aK:=⟨[.val tI],[.val tI],fun x=>HD x.1⟩
noncomputable def TV:Cx:=⟨Tryz.prog,[]⟩
theorem Ze:∀ x,aU TV PU none Tryz.f193 B9 x=B9.m x:=by intro x;kernel_rfl
theorem aar:aB Tryz.prog 193:=ax (fn:=Tryz.f193) (by kernel_rfl) rfl (by decide)
theorem aax:aN Tryz.prog 193 B9:=aI (X:=TV) (.nil _) (by kernel_rfl) B9 PU none (by kernel_rfl) (fun x y h=>(Ze x).trans h)
def Ld:List (Nat×Ann):=[(9,⟨[(1,.val (.slice tI)),(2,.ref 2 0),(6,.val tI),(32,.val (.slice tI)),(33,.val tI),(34,.val tI)],[(2,qz)],[],aT _⟩),
 (22,⟨[(2,.ref 2 0),(6,.val tI),(9,.val tI),(10,.rowR 55),(11,.rowR 58),(12,.val tI),(60,.val (.slice tI)),(61,.val tI),(62,.val tI)],[(2,qz)],[.rowC 55 33 aR,.rowC 58 3 tI],aT _⟩),
 (30,⟨[(2,.ref 2 0),(10,.rowR 55),(11,.rowR 58),(12,.val tI)],[(2,qz)],[.rowC 55 33 aR,.rowC 58 3 tI],aT _⟩),
 (34,⟨[(2,.ref 2 0),(10,.rowR 55),(11,.rowR 58),(12,.val tI),(19,.val tI),(106,.rowR 58),(107,.val tI),(108,.val tI)],[(2,qz)],[.rowC 55 33 aR,.rowC 58 3 tI],aT _⟩),
 (42,⟨[(2,.ref 2 0),(10,.rowR 55),(133,.val tI),(134,.val tI)],[(2,qz)],[.rowC 55 33 aR],aT _⟩),
 (200009,⟨[(1,.val (.slice tI)),(2,.ref 2 0),(6,.val tI)],[(2,qz)],[],fun _=>0⟩),
 (200022,⟨[(2,.ref 2 0),(10,.rowR 55),(11,.rowR 58),(12,.val tI)],[(2,qz)],[.rowC 55 33 aR,.rowC 58 3 tI],fun _=>0⟩),
 (200030,⟨[(2,.ref 2 0),(10,.rowR 55)],[(2,qz)],[.rowC 55 33 aR],fun _=>0⟩),
 (200034,⟨[(2,.ref 2 0),(10,.rowR 55),(11,.rowR 58),(12,.val tI),(19,.val tI)],[(2,qz)],[.rowC 55 33 aR,.rowC 58 3 tI],fun _=>0⟩),
 (200042,⟨[(10,.rowR 55)],[],[.rowC 55 33 aR],fun _=>0⟩)]
noncomputable def x2:aK:=⟨[.val aR,.val (.slice tI)],[.val (.slice aR),.val tI],fun x=>Jt x.1 x.2.1⟩
noncomputable def OY:Cx:=⟨Tryz.prog,[(60,ja),(119,pW),(180,gR),(181,oA),(192,rX),(222,tD)]⟩
theorem VW:∀ x,aU OY Ld none Tryz.f194 x2 x=x2.m x:=by intro x;kernel_rfl
theorem WX:aB Tryz.prog 194:=ax (fn:=Tryz.f194) (by kernel_rfl) rfl (by decide)
theorem XO:aN Tryz.prog 194 x2:=aI (X:=OY) (.cons xB xG (.cons HX IM (.cons oB oF (.cons xz x7 (.cons KM KV (.cons Qd O1 (.nil _))))))) (by kernel_rfl) x2 Ld none (by kernel_rfl) (fun x y h=>(VW x).trans h)
def Jp:List (Nat×Ann):=[(5,⟨[(0,.val tI),(6,.rowR 17),(7,.own 3 tI),(8,.val tI),(18,.val (.slice tI)),(19,.val tI),(20,.val tI)],[],[.rowC 17 3 tI],aT _⟩),
 (17,⟨[(6,.rowR 17),(12,.val tI),(50,.val (.slice aR)),(51,.val tI),(52,.val tI)],[],[.rowC 17 3 tI],aT _⟩),
 (200005,⟨[(0,.val tI),(6,.rowR 17),(7,.own 3 tI),(8,.val tI)],[],[.rowC 17 3 tI],fun _=>0⟩),
 (200017,⟨[(6,.rowR 17),(12,.val tI)],[],[.rowC 17 3 tI],fun _=>0⟩)]
noncomputable def vr:aK:=⟨[.val tI,.val (.slice tI)],[.row 3 tI,.val tI],fun x=>Hp x.1 x.2.1⟩
noncomputable def Nu:Cx:=⟨Tryz.prog,[(193,B9),(194,x2)]⟩
theorem Ut:∀ x,aU Nu Jp none Tryz.f141 vr x=vr.m x:=by intro x;kernel_rfl
theorem VT:aB Tryz.prog 141:=ax (fn:=Tryz.f141) (by kernel_rfl) rfl (by decide)
theorem We:aN Tryz.prog 141 vr:=aI (X:=Nu) (.cons aax aar (.cons XO WX (.nil _))) (by kernel_rfl) vr Jp none (by kernel_rfl) (fun x y h=>(Ut x).trans h)
def CH:List (Nat×Ann):=[(3,⟨[(0,.ref 2000 0),(4,.ref 4 0),(5,.ref 5 0),(7,.val tI),(8,.val tI),(27,.rowR 10250002),(28,.val tI),(29,.val tI)],[(4,kC),(5,Uv),(2000,I2)],[.rowC 10250001 3 tI,.rowC 10250002 3 tI,.rowC 10250003 78 (.slice tI),.rowC 10250004 3 tI,.rowC 10250005 3 tI,.rowC 10250006 3 tI,.rowC 10250007 4 .bool],aT _⟩),
 (19,⟨[(0,.ref 2000 0),(8,.val tI),(11,.val tI),(13,.val (.slice tI)),(81,.val (.slice tI)),(82,.val tI),(83,.val tI)],[(2000,I2)],[.rowC 10250001 3 tI,.rowC 10250002 3 tI,.rowC 10250003 78 (.slice tI),.rowC 10250004 3 tI,.rowC 10250005 3 tI,.rowC 10250006 3 tI,.rowC 10250007 4 .bool],aT _⟩),
 (25,⟨[(0,.ref 2000 0),(11,.val tI),(13,.val (.slice tI)),(124,.rowR 10250005),(125,.val tI),(126,.val tI)],[(2000,I2)],[.rowC 10250001 3 tI,.rowC 10250002 3 tI,.rowC 10250003 78 (.slice tI),.rowC 10250004 3 tI,.rowC 10250005 3 tI,.rowC 10250006 3 tI,.rowC 10250007 4 .bool],aT _⟩),
 (100017,⟨[(0,.ref 2000 0),(8,.val tI),(11,.val tI),(13,.own 3 tI)],[(2000,I2)],[.rowC 10250001 3 tI,.rowC 10250002 3 tI,.rowC 10250003 78 (.slice tI),.rowC 10250004 3 tI,.rowC 10250005 3 tI,.rowC 10250006 3 tI,.rowC 10250007 4 .bool],fun _=>0⟩),
 (200003,⟨[(0,.ref 2000 0),(4,.ref 4 0),(5,.ref 5 0),(7,.val tI),(8,.val tI)],[(4,kC),(5,Uv),(2000,I2)],[.rowC 10250001 3 tI,.rowC 10250002 3 tI,.rowC 10250003 78 (.slice tI),.rowC 10250004 3 tI,.rowC 10250005 3 tI,.rowC 10250006 3 tI,.rowC 10250007 4 .bool],fun _=>0⟩),
 (200019,⟨[(0,.ref 2000 0),(11,.val tI),(13,.val (.slice tI))],[(2000,I2)],[.rowC 10250001 3 tI,.rowC 10250002 3 tI,.rowC 10250003 78 (.slice tI),.rowC 10250004 3 tI,.rowC 10250005 3 tI,.rowC 10250006 3 tI,.rowC 10250007 4 .bool],fun _=>0⟩),
 (200025,⟨[(0,.ref 2000 0),(11,.val tI),(13,.val (.slice tI))],[(2000,I2)],[.rowC 10250001 3 tI,.rowC 10250002 3 tI,.rowC 10250003 78 (.slice tI),.rowC 10250004 3 tI,.rowC 10250005 3 tI,.rowC 10250006 3 tI,.rowC 10250007 4 .bool],fun _=>0⟩)]
noncomputable def nN:aK:=⟨[.box [.row 3 tI,.row 3 tI,.row 78 (.slice tI),.row 3 tI,.row 3 tI,.row 3 tI,.row 4 .bool,.val (.st (.pair tI (.pair tI (.pair tI (.pair tI tI)))))],.val bw,.val cQ],[.val tI],fun x=>wo x.1 x.2.1 x.2.2.1⟩
noncomputable def Fq:Cx:=⟨Tryz.prog,[(81,lZ),(82,jI),(140,qO),(141,vr)]⟩
theorem Oa:∀ x,aU Fq CH none Tryz.f84 nN x=nN.m x:=by intro x;kernel_rfl
theorem O3:aB Tryz.prog 84:=ax (fn:=Tryz.f84) (by kernel_rfl) rfl (by decide)
theorem Pj:aN Tryz.prog 84 nN:=aI (X:=Fq) (.cons AG AN (.cons vW vU (.cons NF NN (.cons We VT (.nil _))))) (by kernel_rfl) nN CH none (by kernel_rfl) (fun x y h=>(Oa x).trans h)
def FO:List (Nat×Ann):=[(5,⟨[(0,.ref 2000 0),(2,.val tI),(4,.ref 4 0),(8,.val tI),(38,.val (.slice dX)),(39,.val tI),(40,.val tI)],[(4,kC),(2000,I2)],[.rowC 10250001 3 tI,.rowC 10250002 3 tI,.rowC 10250003 78 (.slice tI),.rowC 10250004 3 tI,.rowC 10250005 3 tI,.rowC 10250006 3 tI,.rowC 10250007 4 .bool],aT _⟩),
 (12,⟨[(2,.val tI),(4,.ref 4 0),(8,.val tI),(79,.rowR 10250003),(80,.val tI),(81,.val tI)],[(4,kC),(2000,I2)],[.rowC 10250001 3 tI,.rowC 10250002 3 tI,.rowC 10250003 78 (.slice tI),.rowC 10250004 3 tI,.rowC 10250005 3 tI,.rowC 10250006 3 tI,.rowC 10250007 4 .bool],aT _⟩),
 (200005,⟨[(0,.ref 2000 0),(2,.val tI),(4,.ref 4 0),(8,.val tI)],[(4,kC),(2000,I2)],[.rowC 10250001 3 tI,.rowC 10250002 3 tI,.rowC 10250003 78 (.slice tI),.rowC 10250004 3 tI,.rowC 10250005 3 tI,.rowC 10250006 3 tI,.rowC 10250007 4 .bool],fun _=>0⟩),
 (200012,⟨[(8,.val tI)],[(2000,I2)],[.rowC 10250001 3 tI,.rowC 10250002 3 tI,.rowC 10250003 78 (.slice tI),.rowC 10250004 3 tI,.rowC 10250005 3 tI,.rowC 10250006 3 tI,.rowC 10250007 4 .bool],fun _=>0⟩)]
noncomputable def pS:aK:=⟨[.box [.row 3 tI,.row 3 tI,.row 78 (.slice tI),.row 3 tI,.row 3 tI,.row 3 tI,.row 4 .bool,.val (.st (.pair tI (.pair tI (.pair tI (.pair tI tI)))))],.val bw,.val tI],[.val tI,.val .bool],fun x=>Az x.1 x.2.1 x.2.2.1⟩
noncomputable def IB:Cx:=⟨Tryz.prog,[(82,jI),(142,pM)]⟩
theorem Ri:∀ x,aU IB FO none Tryz.f85 pS x=pS.m x:=by intro x;kernel_rfl
theorem Ss:aB Tryz.prog 85:=ax (fn:=Tryz.f85) (by kernel_rfl) rfl (by decide)
theorem SG:aN Tryz.prog 85 pS:=aI (X:=IB) (.cons vW vU (.cons Mc Lx (.nil _))) (by kernel_rfl) pS FO none (by kernel_rfl) (fun x y h=>(Ri x).trans h)
def Nt:List (Nat×Ann):=[(3,⟨[(1,.ref 1 0),(2,.ref 2 0),(4,.ref 4 0),(32,.val (.slice dX)),(33,.val tI),(34,.val tI)],[(1,kC),(2,zf),(4,aao)],[.rowC 25 3 tI,.rowC 29 4 .bool],aT _⟩),
 (15,⟨[(1,.ref 1 0),(2,.ref 2 0),(4,.ref 4 0),(78,.rowR 25),(79,.val tI),(80,.val tI)],[(1,kC),(2,zf),(4,aao)],[.rowC 25 3 tI,.rowC 29 4 .bool],aT _⟩),
 (22,⟨[(1,.ref 1 0),(2,.ref 2 0),(4,.ref 4 0),(94,.val (.slice cQ)),(95,.val tI),(96,.val tI)],[(1,kC),(2,zf),(4,zf)],[],aT _⟩),
 (29,⟨[(1,.ref 1 0),(2,.ref 2 0),(4,.ref 4 0),(110,.val tI),(111,.val tI)],[(1,kC),(2,zf),(4,zf)],[],aT _⟩),
 (38,⟨[(2,.ref 2 0),(4,.ref 4 0),(138,.val (.slice tI)),(139,.val tI),(140,.val tI)],[(2,zf),(4,aau)],[],aT _⟩),
 (45,⟨[(2,.ref 2 0),(4,.ref 4 0),(171,.val (.st (.pair tI (.pair tI (.pair tI (.pair tI tI)))))),(172,.val tI)],[(2,zf),(4,aau)],[],aT _⟩),
 (200003,⟨[(1,.ref 1 0),(2,.ref 2 0),(4,.ref 4 0)],[(1,kC),(2,zf),(4,aao)],[.rowC 25 3 tI,.rowC 29 4 .bool],fun _=>0⟩),
 (200015,⟨[(1,.ref 1 0),(2,.ref 2 0),(4,.ref 4 0)],[(1,kC),(2,zf),(4,aao)],[.rowC 25 3 tI,.rowC 29 4 .bool],fun _=>0⟩),
 (200022,⟨[(1,.ref 1 0),(2,.ref 2 0),(4,.ref 4 0)],[(1,kC),(2,zf),(4,zf)],[],fun _=>0⟩),
 (200029,⟨[(2,.ref 2 0),(4,.ref 4 0)],[(2,zf),(4,zf)],[],fun _=>0⟩),
 (200038,⟨[(2,.ref 2 0),(4,.ref 4 0)],[(2,zf),(4,aau)],[],fun _=>0⟩),
 (200045,⟨[(2,.ref 2 0),(4,.ref 4 0)],[(2,zf),(4,aau)],[],fun _=>0⟩)]
noncomputable def vJ:aK:=⟨[.val bw],[.val pN,.val tI],fun x=>IA x.1⟩
noncomputable def Ro:Cx:=⟨Tryz.prog,[(80,CN),(81,lZ),(82,jI),(83,mA),(84,nN),(85,pS)]⟩
theorem XW:∀ x,aU Ro Nt none Tryz.f32 vJ x=vJ.m x:=by intro x;kernel_rfl
theorem RS:aB Tryz.prog 32:=ax (fn:=Tryz.f32) (by kernel_rfl) rfl (by decide)
theorem Rs:aN Tryz.prog 32 vJ:=aI (X:=Ro) (.cons aan aaB (.cons AG AN (.cons vW vU (.cons Oe Oj (.cons Pj O3 (.cons SG Ss (.nil _))))))) (by kernel_rfl) vJ Nt none (by kernel_rfl) (fun x y h=>(XW x).trans h)
def NB:List (Nat×Ann):=[]
noncomputable def vA:aK:=⟨[.val bw,.val tI],[.val aR],fun x=>uL x.1 x.2.1⟩
noncomputable def RT:Cx:=⟨Tryz.prog,[]⟩
theorem Xd:∀ x,aU RT NB none Tryz.f34 vA x=vA.m x:=by intro x;kernel_rfl
theorem RE:aB Tryz.prog 34:=ax (fn:=Tryz.f34) (by kernel_rfl) rfl (by decide)
theorem RG:aN Tryz.prog 34 vA:=aI (X:=RT) (.nil _) (by kernel_rfl) vA NB none (by kernel_rfl) (fun x y h=>(Xd x).trans h)
def zC:List (Nat×Ann):=[(3,⟨[(0,.val (.ptr pN)),(3,.ref 3 0),(5,.own 35 gU),(9,.val (.slice dS)),(10,.val tI),(11,.val tI)],[(3,kC)],[],aT _⟩),
 (200003,⟨[(5,.own 35 gU)],[],[],fun _=>0⟩)]
noncomputable def lG:aK:=⟨[.val (.ptr pN),.val bw],[.row 35 gU],fun x=>sU x.1 x.2.1⟩
noncomputable def CX:Cx:=⟨Tryz.prog,[(34,vA)]⟩
theorem L8:∀ x,aU CX zC none Tryz.f33 lG x=lG.m x:=by intro x;kernel_rfl
theorem Na:aB Tryz.prog 33:=ax (fn:=Tryz.f33) (by kernel_rfl) rfl (by decide)
theorem M4:aN Tryz.prog 33 lG:=aI (X:=CX) (.cons RG RE (.nil _)) (by kernel_rfl) lG zC none (by kernel_rfl) (fun x y h=>(L8 x).trans h)
def K8:List (Nat×Ann):=[]
noncomputable def xY:aK:=⟨[.val bw],[.val (.slice gU),.val tI],fun x=>Kd x.1⟩
noncomputable def Pp:Cx:=⟨Tryz.prog,[(31,jR),(32,vJ),(33,lG)]⟩
theorem V6:∀ x,aU Pp K8 none Tryz.f10 xY x=xY.m x:=by intro x;kernel_rfl
theorem XL:aB Tryz.prog 10:=ax (fn:=Tryz.f10) (by kernel_rfl) rfl (by decide)
theorem Xt:aN Tryz.prog 10 xY:=aI (X:=Pp) (.cons Ds Dr (.cons Rs RS (.cons M4 Na (.nil _)))) (by kernel_rfl) xY K8 none (by kernel_rfl) (fun x y h=>(V6 x).trans h)
def tP:List (Nat×Ann):=[(4,⟨[(0,.val (.slice gU)),(1,.val (.slice gU)),(12,.val tI),(13,.val tI)],[],[],aT _⟩),
 (200004,⟨[],[],[],fun _=>0⟩)]
noncomputable def gT:aK:=⟨[.val (.slice gU),.val (.slice gU)],[.val .bool],fun x=>mh x.1 x.2.1⟩
noncomputable def vh:Cx:=⟨Tryz.prog,[]⟩
theorem E1:∀ x,aU vh tP none Tryz.f11 gT x=gT.m x:=by intro x;kernel_rfl
theorem Ga:aB Tryz.prog 11:=ax (fn:=Tryz.f11) (by kernel_rfl) rfl (by decide)
theorem Gl:aN Tryz.prog 11 gT:=aI (X:=vh) (.nil _) (by kernel_rfl) gT tP none (by kernel_rfl) (fun x y h=>(E1 x).trans h)
def Je:List (Nat×Ann):=[]
noncomputable def tH:aK:=⟨[.val bw],[.val Iw,.val tI],fun x=>ES x.1⟩
noncomputable def L7:Cx:=⟨Tryz.prog,[(28,lR),(29,jk)]⟩
theorem SU:∀ x,aU L7 Je (some gV) Tryz.f12 tH x=tH.m x:=by intro x;kernel_rfl
theorem Vd:aB Tryz.prog 12:=ax (fn:=Tryz.f12) (by kernel_rfl) rfl (by decide)
theorem UO:aN Tryz.prog 12 tH:=aI (X:=L7) (.cons GF G4 (.cons C2 Ct (.nil _))) (by kernel_rfl) tH Je (some gV) (by kernel_rfl) (fun x y h=>(SU x).trans h)
def JT:List (Nat×Ann):=[]
noncomputable def uZ:aK:=⟨[.val bw],[.val Iw,.val tI],fun x=>Hh x.1⟩
noncomputable def Nw:Cx:=⟨Tryz.prog,[(31,jR),(32,vJ),(34,vA)]⟩
theorem Vf:∀ x,aU Nw JT none Tryz.f13 uZ x=uZ.m x:=by intro x;kernel_rfl
theorem V4:aB Tryz.prog 13:=ax (fn:=Tryz.f13) (by kernel_rfl) rfl (by decide)
theorem V3:aN Tryz.prog 13 uZ:=aI (X:=Nw) (.cons Ds Dr (.cons Rs RS (.cons RG RE (.nil _)))) (by kernel_rfl) uZ JT none (by kernel_rfl) (fun x y h=>(Vf x).trans h)
def zY:List (Nat×Ann):=[]
noncomputable def lH:aK:=⟨[.val gp,.val (.ptr gp)],[.val .bool],fun x=>GZ x.1 x.2.1⟩
noncomputable def Cd:Cx:=⟨Tryz.prog,[]⟩
theorem L9:∀ x,aU Cd zY none Tryz.f49 lH x=lH.m x:=by intro x;kernel_rfl
theorem MB:aB Tryz.prog 49:=ax (fn:=Tryz.f49) (by kernel_rfl) rfl (by decide)
theorem MY:aN Tryz.prog 49 lH:=aI (X:=Cd) (.nil _) (by kernel_rfl) lH zY none (by kernel_rfl) (fun x y h=>(L9 x).trans h)
def rK:List (Nat×Ann):=[(2,⟨[(0,.val (.slice gp)),(1,.val (.clo 49 (.ptr gp))),(7,.val tI),(8,.val tI)],[],[],aT _⟩),
 (200002,⟨[],[],[],fun _=>0⟩)]
noncomputable def gA:aK:=⟨[.val (.slice gp),.val (.clo 49 (.ptr gp))],[.val tI],fun x=>wA x.1 x.2.1⟩
noncomputable def s7:Cx:=⟨Tryz.prog,[(49,lH)]⟩
theorem Dh:∀ x,aU s7 rK none Tryz.f101 gA x=gA.m x:=by intro x;kernel_rfl
theorem DX:aB Tryz.prog 101:=ax (fn:=Tryz.f101) (by kernel_rfl) rfl (by decide)
theorem D1:aN Tryz.prog 101 gA:=aI (X:=s7) (.cons MY MB (.nil _)) (by kernel_rfl) gA rK none (by kernel_rfl) (fun x y h=>(Dh x).trans h)
def pz:List (Nat×Ann):=[]
noncomputable def fk:aK:=⟨[.val (.slice gp),.val (.clo 49 (.ptr gp))],[.val .bool],fun x=>sX x.1 x.2.1⟩
noncomputable def qJ:Cx:=⟨Tryz.prog,[(101,gA)]⟩
theorem A5:∀ x,aU qJ pz none Tryz.f48 fk x=fk.m x:=by intro x;kernel_rfl
theorem BI:aB Tryz.prog 48:=ax (fn:=Tryz.f48) (by kernel_rfl) rfl (by decide)
theorem BO:aN Tryz.prog 48 fk:=aI (X:=qJ) (.cons D1 DX (.nil _)) (by kernel_rfl) fk pz none (by kernel_rfl) (fun x y h=>(A5 x).trans h)
def BZ:List (Nat×Ann):=[]
noncomputable def k8:aK:=⟨[.val aR],[.val tI],fun x=>rN x.1⟩
noncomputable def Fc:Cx:=⟨Tryz.prog,[(102,cD),(103,jH)]⟩
theorem N9:∀ x,aU Fc BZ none Tryz.f51 k8 x=k8.m x:=by intro x;kernel_rfl
theorem FK:aB Tryz.prog 51:=ax (fn:=Tryz.f51) (by kernel_rfl) rfl (by decide)
theorem FR:aN Tryz.prog 51 k8:=aI (X:=Fc) (.cons gZ hJ (.cons wk vT (.nil _))) (by kernel_rfl) k8 BZ none (by kernel_rfl) (fun x y h=>(N9 x).trans h)
def Ci:List (Nat×Ann):=[(4,⟨[(0,.val (.slice gp)),(9,.val (.slice gp)),(10,.val tI),(11,.val tI)],[],[],aT _⟩),
 (200004,⟨[],[],[],fun _=>0⟩)]
noncomputable def nG:aK:=⟨[.val (.slice gp)],[.val tI],fun x=>JM x.1⟩
noncomputable def FA:Cx:=⟨Tryz.prog,[(38,kj),(39,fy),(48,fk),(50,qu),(51,k8)]⟩
theorem Oq:∀ x,aU FA Ci none Tryz.f21 nG x=nG.m x:=by intro x;kernel_rfl
theorem PT:aB Tryz.prog 21:=ax (fn:=Tryz.f21) (by kernel_rfl) rfl (by decide)
theorem Pz:aN Tryz.prog 21 nG:=aI (X:=FA) (.cons vo uW (.cons kQ k9 (.cons BO BI (.cons Jc IL (.cons FR FK (.nil _)))))) (by kernel_rfl) nG Ci none (by kernel_rfl) (fun x y h=>(Oq x).trans h)
def wT:List (Nat×Ann):=[(2,⟨[(0,.val (.slice .str)),(1,.val .str),(7,.val tI),(8,.val tI)],[],[],aT _⟩),
 (200002,⟨[],[],[],fun _=>0⟩)]
noncomputable def jX:aK:=⟨[.val (.slice .str),.val .str],[.val tI],fun x=>DB x.1 x.2.1⟩
noncomputable def zz:Cx:=⟨Tryz.prog,[]⟩
theorem Jh:∀ x,aU zz wT none Tryz.f204 jX x=jX.m x:=by intro x;kernel_rfl
theorem KE:aB Tryz.prog 204:=ax (fn:=Tryz.f204) (by kernel_rfl) rfl (by decide)
theorem Kk:aN Tryz.prog 204 jX:=aI (X:=zz) (.nil _) (by kernel_rfl) jX wT none (by kernel_rfl) (fun x y h=>(Jh x).trans h)
def ug:List (Nat×Ann):=[]
noncomputable def iu:aK:=⟨[.val (.slice .str),.val .str],[.val .bool],fun x=>zM x.1 x.2.1⟩
noncomputable def wg:Cx:=⟨Tryz.prog,[(204,jX)]⟩
theorem Gp:∀ x,aU wg ug none Tryz.f161 iu x=iu.m x:=by intro x;kernel_rfl
theorem Hs:aB Tryz.prog 161:=ax (fn:=Tryz.f161) (by kernel_rfl) rfl (by decide)
theorem Hl:aN Tryz.prog 161 iu:=aI (X:=wg) (.cons Kk KE (.nil _)) (by kernel_rfl) iu ug none (by kernel_rfl) (fun x y h=>(Gp x).trans h)
def yF:List (Nat×Ann):=[(4,⟨[(0,.val (.slice cM)),(11,.val (.slice cM)),(12,.val tI),(13,.val tI)],[],[],aT _⟩),
 (16,⟨[(0,.val (.slice cM)),(4,.ref 4 0),(11,.val (.slice cM)),(12,.val tI),(13,.val tI),(46,.val (.slice .str)),(47,.val tI),(48,.val tI)],[(4,WE)],[],aT _⟩),
 (200004,⟨[],[],[],fun _=>0⟩),
 (200016,⟨[(0,.val (.slice cM)),(11,.val (.slice cM)),(12,.val tI),(13,.val tI)],[],[],fun _=>0⟩)]
noncomputable def kZ:aK:=⟨[.val (.slice cM)],[.val tI],fun x=>E2 x.1⟩
noncomputable def BC:Cx:=⟨Tryz.prog,[(38,kj),(50,qu),(51,k8),(161,iu)]⟩
theorem KX:∀ x,aU BC yF none Tryz.f104 kZ x=kZ.m x:=by intro x;kernel_rfl
theorem LK:aB Tryz.prog 104:=ax (fn:=Tryz.f104) (by kernel_rfl) rfl (by decide)
theorem Lt:aN Tryz.prog 104 kZ:=aI (X:=BC) (.cons vo uW (.cons Jc IL (.cons FR FK (.cons Hl Hs (.nil _))))) (by kernel_rfl) kZ yF none (by kernel_rfl) (fun x y h=>(KX x).trans h)
def DM:List (Nat×Ann):=[]
noncomputable def oY:aK:=⟨[.val (.slice gp),.val (.slice cM)],[.val tI],fun x=>LM x.1 x.2.1⟩
noncomputable def GP:Cx:=⟨Tryz.prog,[(21,nG),(104,kZ)]⟩
theorem OP:∀ x,aU GP DM none Tryz.f52 oY x=oY.m x:=by intro x;kernel_rfl
theorem Q8:aB Tryz.prog 52:=ax (fn:=Tryz.f52) (by kernel_rfl) rfl (by decide)
theorem Q3:aN Tryz.prog 52 oY:=aI (X:=GP) (.cons Pz PT (.cons Lt LK (.nil _))) (by kernel_rfl) oY DM none (by kernel_rfl) (fun x y h=>(OP x).trans h)
def JP:List (Nat×Ann):=[]
noncomputable def vn:aK:=⟨[.val aR],[.val tI],fun x=>M8 x.1⟩
noncomputable def No:Cx:=⟨Tryz.prog,[(160,oE)]⟩
theorem Um:∀ x,aU No JP none Tryz.f105 vn x=vn.m x:=by intro x;kernel_rfl
theorem VS:aB Tryz.prog 105:=ax (fn:=Tryz.f105) (by kernel_rfl) rfl (by decide)
theorem Wr:aN Tryz.prog 105 vn:=aI (X:=No) (.cons Gv Gz (.nil _)) (by kernel_rfl) vn JP none (by kernel_rfl) (fun x y h=>(Um x).trans h)
def tw:List (Nat×Ann):=[]
noncomputable def gW:aK:=⟨[.val (.slice .hnd)],[.row 113 .hnd],fun x=>yI x.1⟩
noncomputable def vu:Cx:=⟨Tryz.prog,[]⟩
theorem E3:∀ x,aU vu tw none Tryz.f106 gW x=gW.m x:=by intro x;kernel_rfl
theorem F7:aB Tryz.prog 106:=ax (fn:=Tryz.f106) (by kernel_rfl) rfl (by decide)
theorem Gs:aN Tryz.prog 106 gW:=aI (X:=vu) (.nil _) (by kernel_rfl) gW tw none (by kernel_rfl) (fun x y h=>(E3 x).trans h)
def DC:List (Nat×Ann):=[]
noncomputable def oH:aK:=⟨[.val .hnd,.arR aX],[.val tI],fun x=>D3 x.1 x.2.1⟩
noncomputable def GY:Cx:=⟨Tryz.prog,[]⟩
theorem Pe:∀ x,aU GY DC none Tryz.f109 oH x=oH.m x:=by intro x;kernel_rfl
theorem Q6:aB Tryz.prog 109:=ax (fn:=Tryz.f109) (by kernel_rfl) rfl (by decide)
theorem Rf:aN Tryz.prog 109 oH:=aI (X:=GY) (.nil _) (by kernel_rfl) oH DC none (by kernel_rfl) (fun x y h=>(Pe x).trans h)
def BR:List (Nat×Ann):=[]
noncomputable def kR:aK:=⟨[.val .hnd,.val .hnd,.arR aX],[.val tI],fun x=>rD x.1 x.2.1 x.2.2.1⟩
noncomputable def FY:Cx:=⟨Tryz.prog,[(109,oH)]⟩
theorem Ok:∀ x,aU FY BR none Tryz.f108 kR x=kR.m x:=by intro x;kernel_rfl
theorem Fy:aB Tryz.prog 108:=ax (fn:=Tryz.f108) (by kernel_rfl) rfl (by decide)
theorem E8:aN Tryz.prog 108 kR:=aI (X:=FY) (.cons Rf Q6 (.nil _)) (by kernel_rfl) kR BR none (by kernel_rfl) (fun x y h=>(Ok x).trans h)
def kE:List (Nat×Ann):=[(1,⟨[(0,.rowR 10250000),(1,.val tI),(2,.val tI),(3,.val (.clo 108 .unit)),(8,.val tI)],[],[.rowC 10250000 113 .hnd,.arF aX],aT _⟩),
 (4,⟨[(0,.rowR 10250000),(1,.val tI),(2,.val tI),(3,.val (.clo 108 .unit)),(8,.val tI),(9,.val tI)],[],[.rowC 10250000 113 .hnd,.arF aX],aT _⟩),
 (200001,⟨[],[],[.rowC 10250000 113 .hnd,.arF aX],fun _=>0⟩),
 (200004,⟨[(0,.rowR 10250000),(1,.val tI),(2,.val tI),(3,.val (.clo 108 .unit)),(8,.val tI)],[],[.rowC 10250000 113 .hnd,.arF aX],fun _=>0⟩)]
noncomputable def cC:aK:=⟨[.mrow 113 .hnd,.val tI,.val tI,.val (.clo 108 .unit),.arR aX],[],fun x=>ir x.1 x.2.1 x.2.2.1 x.2.2.2.1 x.2.2.2.2.1⟩
noncomputable def lA:Cx:=⟨Tryz.prog,[(108,kR)]⟩
theorem tc:∀ x,aU lA kE none Tryz.f205 cC x=cC.m x:=by intro x;kernel_rfl
theorem ua:aB Tryz.prog 205:=ax (fn:=Tryz.f205) (by kernel_rfl) rfl (by decide)
theorem tZ:aN Tryz.prog 205 cC:=aI (X:=lA) (.cons E8 Fy (.nil _)) (by kernel_rfl) cC kE none (by kernel_rfl) (fun x y h=>(tc x).trans h)
def l7:List (Nat×Ann):=[(1,⟨[(0,.rowR 10250000),(1,.val tI),(2,.val tI),(3,.val tI),(10,.val tI)],[],[.rowC 10250000 113 .hnd,.arF aX],aT _⟩),
 (200001,⟨[],[],[.rowC 10250000 113 .hnd,.arF aX],fun _=>0⟩)]
noncomputable def cX:aK:=⟨[.mrow 113 .hnd,.val tI,.val tI,.val tI,.val (.clo 108 .unit),.arR aX],[],fun x=>gu x.1 x.2.1 x.2.2.1 x.2.2.2.1 x.2.2.2.2.1 x.2.2.2.2.2.1⟩
noncomputable def m8:Cx:=⟨Tryz.prog,[]⟩
theorem vO:∀ x,aU m8 l7 none Tryz.f240 cX x=cX.m x:=by intro x;kernel_rfl
theorem wC:aB Tryz.prog 240:=ax (fn:=Tryz.f240) (by kernel_rfl) rfl (by decide)
theorem wF:aN Tryz.prog 240 cX:=aI (X:=m8) (.nil _) (by kernel_rfl) cX l7 none (by kernel_rfl) (fun x y h=>(vO x).trans h)
def ny:List (Nat×Ann):=[(2,⟨[(0,.rowR 10250000),(2,.val tI),(4,.val (.clo 108 .unit)),(10,.val tI),(11,.val tI)],[],[.rowC 10250000 113 .hnd,.arF aX],aT _⟩),
 (200002,⟨[(0,.rowR 10250000),(2,.val tI),(4,.val (.clo 108 .unit)),(10,.val tI)],[],[.rowC 10250000 113 .hnd,.arF aX],fun _=>0⟩)]
noncomputable def dQ:aK:=⟨[.mrow 113 .hnd,.val tI,.val tI,.val tI,.val (.clo 108 .unit),.arR aX],[],fun x=>qE x.1 x.2.1 x.2.2.1 x.2.2.2.1 x.2.2.2.2.1 x.2.2.2.2.2.1⟩
noncomputable def oT:Cx:=⟨Tryz.prog,[(240,cX)]⟩
theorem yo:∀ x,aU oT ny none Tryz.f231 dQ x=dQ.m x:=by intro x;kernel_rfl
theorem yX:aB Tryz.prog 231:=ax (fn:=Tryz.f231) (by kernel_rfl) rfl (by decide)
theorem yZ:aN Tryz.prog 231 dQ:=aI (X:=oT) (.cons wF wC (.nil _)) (by kernel_rfl) dQ ny none (by kernel_rfl) (fun x y h=>(yo x).trans h)
def mu:List (Nat×Ann):=[(3,⟨[(0,.rowR 10250000),(1,.val tI),(4,.val (.clo 108 .unit)),(10,.val tI),(11,.val tI)],[],[.rowC 10250000 113 .hnd,.arF aX],aT _⟩),
 (9,⟨[(0,.rowR 10250000),(10,.val tI),(13,.val tI)],[],[.rowC 10250000 113 .hnd,.arF aX],aT _⟩),
 (15,⟨[(0,.rowR 10250000),(2,.val tI),(4,.val (.clo 108 .unit)),(14,.val tI),(15,.val tI)],[],[.rowC 10250000 113 .hnd,.arF aX],aT _⟩),
 (21,⟨[(0,.rowR 10250000),(14,.val tI),(17,.val tI)],[],[.rowC 10250000 113 .hnd,.arF aX],aT _⟩),
 (33,⟨[(0,.rowR 10250000),(1,.val tI),(2,.val tI),(3,.val tI),(4,.val (.clo 108 .unit)),(18,.val tI),(19,.val tI),(20,.val tI),(21,.val tI),(22,.val tI)],[],[.rowC 10250000 113 .hnd,.arF aX],aT _⟩),
 (100030,⟨[(0,.rowR 10250000),(1,.val tI),(2,.val tI),(3,.val tI),(4,.val (.clo 108 .unit)),(18,.val tI),(19,.val tI),(20,.val tI),(21,.val tI)],[],[.rowC 10250000 113 .hnd,.arF aX],fun _=>0⟩),
 (100040,⟨[(0,.rowR 10250000),(1,.val tI),(3,.val tI),(4,.val (.clo 108 .unit)),(18,.val tI),(20,.val tI),(24,.val tI)],[],[.rowC 10250000 113 .hnd,.arF aX],fun _=>0⟩),
 (100042,⟨[(0,.rowR 10250000),(3,.val tI),(4,.val (.clo 108 .unit)),(18,.val tI),(24,.val tI)],[],[.rowC 10250000 113 .hnd,.arF aX],fun _=>0⟩),
 (200003,⟨[(0,.rowR 10250000),(1,.val tI),(10,.val tI)],[],[.rowC 10250000 113 .hnd,.arF aX],fun _=>0⟩),
 (200009,⟨[],[],[.rowC 10250000 113 .hnd,.arF aX],fun _=>0⟩),
 (200015,⟨[(0,.rowR 10250000),(2,.val tI),(14,.val tI)],[],[.rowC 10250000 113 .hnd,.arF aX],fun _=>0⟩),
 (200021,⟨[],[],[.rowC 10250000 113 .hnd,.arF aX],fun _=>0⟩),
 (200033,⟨[(0,.rowR 10250000),(1,.val tI),(2,.val tI),(3,.val tI),(4,.val (.clo 108 .unit)),(18,.val tI),(19,.val tI),(20,.val tI)],[],[.rowC 10250000 113 .hnd,.arF aX],fun _=>0⟩)]
def bS:List PM:=[.mrow 113 .hnd,.val tI,.val tI,.val tI,.val (.clo 108 .unit),.arR aX]
def cA:List RM:=[]
noncomputable def nh:List (Nat×aK):=[(108,kR),(231,dQ)]
noncomputable def nQ:aK:=⟨bS,cA,fun x=>jU x.1 x.2.1 x.2.2.1 x.2.2.2.1 x.2.2.2.2.1 x.2.2.2.2.2.1⟩
theorem wM:∀ (self:gE bS→Option (dO bS cA)) (x:gE bS),aU ⟨Tryz.prog,(206,⟨bS,cA,self⟩)::nh⟩ mu none Tryz.f206 ⟨bS,cA,fun x=>dF self x.1 x.2.1 x.2.2.1 x.2.2.2.1 x.2.2.2.2.1 x.2.2.2.2.2.1⟩ x=dF self x.1 x.2.1 x.2.2.1 x.2.2.2.1 x.2.2.2.2.1 x.2.2.2.2.2.1:=by intro self x;kernel_rfl
theorem nC:aB Tryz.prog 206:=ax (fn:=Tryz.f206) (by kernel_rfl) rfl (by decide)
theorem xO:aN Tryz.prog 206 nQ:=RF (ps:=bS) (rs:=cA) (m:=fun n x=>Em (fun self x=>dF self x.1 x.2.1 x.2.2.1 x.2.2.2.1 x.2.2.2.2.1 x.2.2.2.2.2.1) n x) (My (P:=Tryz.prog) (specs:=nh) (ps:=bS) (rs:=cA) (.cons E8 Fy (.cons yZ yX (.nil _))) (by kernel_rfl) (fun self x=>dF self x.1 x.2.1 x.2.2.1 x.2.2.2.1 x.2.2.2.2.1 x.2.2.2.2.2.1) mu none (by kernel_rfl) nC wM) (fun x=>mE x.1 x.2.1 x.2.2.1 x.2.2.2.1 x.2.2.2.2.1 x.2.2.2.2.2.1)
def nY:List (Nat×Ann):=[(2,⟨[(0,.rowR 10250000),(1,.val tI),(2,.val (.clo 108 .unit)),(6,.val tI),(7,.val tI),(8,.val tI)],[],[.rowC 10250000 113 .hnd,.arF aX],aT _⟩),
 (7,⟨[(0,.rowR 10250000),(1,.val tI),(2,.val (.clo 108 .unit)),(6,.val tI)],[],[.rowC 10250000 113 .hnd,.arF aX],aT _⟩),
 (9,⟨[(0,.rowR 10250000),(1,.val tI),(2,.val (.clo 108 .unit)),(6,.val tI),(7,.val tI),(8,.val tI)],[],[.rowC 10250000 113 .hnd,.arF aX],aT _⟩),
 (200002,⟨[(0,.rowR 10250000),(1,.val tI),(2,.val (.clo 108 .unit)),(6,.val tI),(7,.val tI)],[],[.rowC 10250000 113 .hnd,.arF aX],fun _=>0⟩),
 (200007,⟨[],[],[.rowC 10250000 113 .hnd,.arF aX],fun _=>0⟩),
 (200009,⟨[(0,.rowR 10250000),(1,.val tI),(2,.val (.clo 108 .unit)),(6,.val tI),(7,.val tI)],[],[.rowC 10250000 113 .hnd,.arF aX],fun _=>0⟩)]
noncomputable def dM:aK:=⟨[.mrow 113 .hnd,.val tI,.val (.clo 108 .unit),.arR aX],[],fun x=>qD x.1 x.2.1 x.2.2.1 x.2.2.2.1⟩
noncomputable def oL:Cx:=⟨Tryz.prog,[(205,cC),(206,nQ)]⟩
theorem yB:∀ x,aU oL nY none Tryz.f162 dM x=dM.m x:=by intro x;kernel_rfl
theorem zo:aB Tryz.prog 162:=ax (fn:=Tryz.f162) (by kernel_rfl) rfl (by decide)
theorem ze:aN Tryz.prog 162 dM:=aI (X:=oL) (.cons tZ ua (.cons xO nC (.nil _))) (by kernel_rfl) dM nY none (by kernel_rfl) (fun x y h=>(yB x).trans h)
def m7:List (Nat×Ann):=[]
noncomputable def dG:aK:=⟨[.mrow 113 .hnd,.val (.clo 108 .unit),.arR aX],[],fun x=>qd x.1 x.2.1 x.2.2.1⟩
noncomputable def om:Cx:=⟨Tryz.prog,[(162,dM)]⟩
theorem x4:∀ x,aU om m7 none Tryz.f107 dG x=dG.m x:=by intro x;kernel_rfl
theorem yg:aB Tryz.prog 107:=ax (fn:=Tryz.f107) (by kernel_rfl) rfl (by decide)
theorem yt:aN Tryz.prog 107 dG:=aI (X:=om) (.cons ze zo (.nil _)) (by kernel_rfl) dG m7 none (by kernel_rfl) (fun x y h=>(x4 x).trans h)
def Da:List (Nat×Ann):=[]
noncomputable def nK:aK:=⟨[.val .hnd,.val tI,.arR aX],[.val .bool],fun x=>Cs x.1 x.2.1 x.2.2.1⟩
noncomputable def FI:Cx:=⟨Tryz.prog,[]⟩
theorem Om:∀ x,aU FI Da none Tryz.f110 nK x=nK.m x:=by intro x;kernel_rfl
theorem P7:aB Tryz.prog 110:=ax (fn:=Tryz.f110) (by kernel_rfl) rfl (by decide)
theorem ON:aN Tryz.prog 110 nK:=aI (X:=FI) (.nil _) (by kernel_rfl) nK Da none (by kernel_rfl) (fun x y h=>(Om x).trans h)
def yG:List (Nat×Ann):=[]
noncomputable def kJ:aK:=⟨[.val .hnd,.arR aX],[.val tI],fun x=>Fx x.1 x.2.1⟩
noncomputable def Bj:Cx:=⟨Tryz.prog,[(160,oE)]⟩
theorem KC:∀ x,aU Bj yG none Tryz.f163 kJ x=kJ.m x:=by intro x;kernel_rfl
theorem K3:aB Tryz.prog 163:=ax (fn:=Tryz.f163) (by kernel_rfl) rfl (by decide)
theorem LX:aN Tryz.prog 163 kJ:=aI (X:=Bj) (.cons Gv Gz (.nil _)) (by kernel_rfl) kJ yG none (by kernel_rfl) (fun x y h=>(KC x).trans h)
def Ff:List (Nat×Ann):=[]
noncomputable def mU:aK:=⟨[.val .hnd,.val tI,.val tI,.ar aX],[.val tI],fun x=>Ah x.1 x.2.1 x.2.2.1 x.2.2.2.1⟩
noncomputable def Ie:Cx:=⟨Tryz.prog,[]⟩
theorem QV:∀ x,aU Ie Ff none Tryz.f112 mU x=mU.m x:=by intro x;kernel_rfl
theorem It:aB Tryz.prog 112:=ax (fn:=Tryz.f112) (by kernel_rfl) rfl (by decide)
theorem HY:aN Tryz.prog 112 mU:=aI (X:=Ie) (.nil _) (by kernel_rfl) mU Ff none (by kernel_rfl) (fun x y h=>(QV x).trans h)
def BQ:List (Nat×Ann):=[]
noncomputable def nA:aK:=⟨[.val .hnd,.val tI,.val tI,.ar aX],[.val tI],fun x=>JL x.1 x.2.1 x.2.2.1 x.2.2.2.1⟩
noncomputable def FQ:Cx:=⟨Tryz.prog,[(112,mU),(163,kJ)]⟩
theorem N6:∀ x,aU FQ BQ none Tryz.f111 nA x=nA.m x:=by intro x;kernel_rfl
theorem PY:aB Tryz.prog 111:=ax (fn:=Tryz.f111) (by kernel_rfl) rfl (by decide)
theorem P8:aN Tryz.prog 111 nA:=aI (X:=FQ) (.cons HY It (.cons LX K3 (.nil _))) (by kernel_rfl) nA BQ none (by kernel_rfl) (fun x y h=>(N6 x).trans h)
def FE:List (Nat×Ann):=[(4,⟨[(1,.val (.slice cM)),(2,.val tI),(8,.own 113 .hnd),(9,.mapR 23),(24,.val (.slice gp)),(25,.val tI),(26,.val tI)],[],[.mapC 23 .str .hnd,.ar aX],aT _⟩),
 (14,⟨[(2,.val tI),(8,.own 113 .hnd),(9,.mapR 23),(13,.rowR 105744),(14,.own 3 tI),(49,.val (.slice cM)),(50,.val tI),(51,.val tI)],[],[.rowC 105744 113 .hnd,.mapC 23 .str .hnd,.ar aX],aT _⟩),
 (19,⟨[(2,.val tI),(8,.own 113 .hnd),(9,.mapR 23),(13,.rowR 105744),(14,.own 3 tI),(16,.ref 16 0),(17,.val tI),(49,.val (.slice cM)),(50,.val tI),(51,.val tI),(63,.val (.slice .str)),(64,.val tI),(65,.val tI)],[(16,WE)],[.rowC 105744 113 .hnd,.mapC 23 .str .hnd,.ar aX],aT _⟩),
 (26,⟨[(2,.val tI),(8,.own 113 .hnd),(9,.mapR 23),(13,.rowR 105744),(14,.own 3 tI),(16,.ref 16 0),(17,.val tI),(49,.val (.slice cM)),(50,.val tI),(51,.val tI),(86,.rowR 105744),(87,.val tI),(88,.val tI)],[(16,WE)],[.rowC 105744 113 .hnd,.mapC 23 .str .hnd,.ar aX],aT _⟩),
 (200004,⟨[(1,.val (.slice cM)),(2,.val tI),(8,.own 113 .hnd),(9,.mapR 23)],[],[.mapC 23 .str .hnd,.ar aX],fun _=>0⟩),
 (200014,⟨[(8,.own 113 .hnd),(14,.own 3 tI)],[],[.ar aX],fun _=>0⟩),
 (200019,⟨[(2,.val tI),(8,.own 113 .hnd),(9,.mapR 23),(13,.rowR 105744),(14,.own 3 tI),(16,.ref 16 0),(17,.val tI),(49,.val (.slice cM)),(50,.val tI),(51,.val tI)],[(16,WE)],[.rowC 105744 113 .hnd,.mapC 23 .str .hnd,.ar aX],fun _=>0⟩),
 (200026,⟨[(2,.val tI),(8,.own 113 .hnd),(9,.mapR 23),(13,.rowR 105744),(14,.own 3 tI),(17,.val tI),(49,.val (.slice cM)),(50,.val tI),(51,.val tI)],[],[.rowC 105744 113 .hnd,.mapC 23 .str .hnd,.ar aX],fun _=>0⟩)]
noncomputable def p6:aK:=⟨[.val (.slice gp),.val (.slice cM),.val tI,.ar aX],[.val (.slice .hnd),.val (.slice tI)],fun x=>NK x.1 x.2.1 x.2.2.1 x.2.2.2.1⟩
noncomputable def Ik:Cx:=⟨Tryz.prog,[(105,vn),(106,gW),(107,dG),(110,nK),(111,nA),(112,mU)]⟩
theorem QO:∀ x,aU Ik FE none Tryz.f53 p6 x=p6.m x:=by intro x;kernel_rfl
theorem R8:aB Tryz.prog 53:=ax (fn:=Tryz.f53) (by kernel_rfl) rfl (by decide)
theorem So:aN Tryz.prog 53 p6:=aI (X:=Ik) (.cons Wr VS (.cons Gs F7 (.cons yt yg (.cons ON P7 (.cons P8 PY (.cons HY It (.nil _))))))) (by kernel_rfl) p6 FE none (by kernel_rfl) (fun x y h=>(QO x).trans h)
def FC:List (Nat×Ann):=[(2,⟨[(1,.val tI),(2,.ref 2 0),(4,.ref 4 0),(6,.ref 6 0)],[(2,kH),(4,qz),(6,kH)],[],aT _⟩),
 (200002,⟨[(1,.val tI),(2,.ref 2 0),(4,.ref 4 0)],[(2,kH),(4,qz)],[],fun _=>0⟩)]
noncomputable def pU:aK:=⟨[.val aq,.val tI],[.val aR,.val tI],fun x=>Ni x.1 x.2.1⟩
noncomputable def HT:Cx:=⟨Tryz.prog,[(86,mY),(127,fU),(158,ic),(159,iZ),(195,lD)]⟩
theorem Re:∀ x,aU HT FC none Tryz.f164 pU x=pU.m x:=by intro x;kernel_rfl
theorem Sl:aB Tryz.prog 164:=ax (fn:=Tryz.f164) (by kernel_rfl) rfl (by decide)
theorem SB:aN Tryz.prog 164 pU:=aI (X:=HT) (.cons DQ D2 (.cons j7 j8 (.cons sO sB (.cons xI xW (.cons C5 B4 (.nil _)))))) (by kernel_rfl) pU FC none (by kernel_rfl) (fun x y h=>(Re x).trans h)
def JU:List (Nat×Ann):=[]
noncomputable def ve:aK:=⟨[.val tI],[.val aR,.val tI],fun x=>To x.1⟩
noncomputable def Np:Cx:=⟨Tryz.prog,[(127,fU),(164,pU)]⟩
theorem Un:∀ x,aU Np JU none Tryz.f113 ve x=ve.m x:=by intro x;kernel_rfl
theorem Wm:aB Tryz.prog 113:=ax (fn:=Tryz.f113) (by kernel_rfl) rfl (by decide)
theorem VR:aN Tryz.prog 113 ve:=aI (X:=Np) (.cons j7 j8 (.cons SB Sl (.nil _))) (by kernel_rfl) ve JU none (by kernel_rfl) (fun x y h=>(Un x).trans h)
def DK:List (Nat×Ann):=[]
noncomputable def oV:aK:=⟨[.val tI],[.val aR],fun x=>yq x.1⟩
noncomputable def GO:Cx:=⟨Tryz.prog,[(113,ve)]⟩
theorem OU:∀ x,aU GO DK none Tryz.f54 oV x=oV.m x:=by intro x;kernel_rfl
theorem Ra:aB Tryz.prog 54:=ax (fn:=Tryz.f54) (by kernel_rfl) rfl (by decide)
theorem Q5:aN Tryz.prog 54 oV:=aI (X:=GO) (.cons VR Wm (.nil _)) (by kernel_rfl) oV DK none (by kernel_rfl) (fun x y h=>(OU x).trans h)
def NA:List (Nat×Ann):=[(7,⟨[(9,.val (.slice tI)),(10,.own 63 Dd),(28,.val (.slice .hnd)),(29,.val tI),(30,.val tI)],[],[.ar aX],aT _⟩),
 (13,⟨[(10,.own 63 Dd),(13,.own 33 aR),(58,.val (.slice tI)),(59,.val tI),(60,.val tI)],[],[.ar aX],aT _⟩),
 (200007,⟨[(9,.val (.slice tI)),(10,.own 63 Dd)],[],[.ar aX],fun _=>0⟩),
 (200013,⟨[(10,.own 63 Dd),(13,.own 33 aR)],[],[.ar aX],fun _=>0⟩)]
noncomputable def zA:aK:=⟨[.val (.slice gp),.val (.slice cM)],[.val (.slice Dd),.val (.slice aR),.val tI],fun x=>Xr x.1 x.2.1⟩
noncomputable def RL:Cx:=⟨Tryz.prog,[(52,oY),(53,p6),(54,oV)]⟩
theorem Yu:∀ x,aU RL NA (some aX) Tryz.f22 zA x=zA.m x:=by intro x;kernel_rfl
theorem Zc:aB Tryz.prog 22:=ax (fn:=Tryz.f22) (by kernel_rfl) rfl (by decide)
theorem Y5:aN Tryz.prog 22 zA:=aI (X:=RL) (.cons Q3 Q8 (.cons So R8 (.cons Q5 Ra (.nil _)))) (by kernel_rfl) zA NA (some aX) (by kernel_rfl) (fun x y h=>(Yu x).trans h)
def L5:List (Nat×Ann):=[]
noncomputable def w9:aK:=⟨[],[.val .bool],fun x=>Qh ⟩
noncomputable def Ox:Cx:=⟨Tryz.prog,[(22,zA)]⟩
theorem Wd:∀ x,aU Ox L5 none Tryz.f14 w9 x=w9.m x:=by intro x;kernel_rfl
theorem X4:aB Tryz.prog 14:=ax (fn:=Tryz.f14) (by kernel_rfl) rfl (by decide)
theorem Yc:aN Tryz.prog 14 w9:=aI (X:=Ox) (.cons Y5 Zc (.nil _)) (by kernel_rfl) w9 L5 none (by kernel_rfl) (fun x y h=>(Wd x).trans h)
def s5:List (Nat×Ann):=[]
noncomputable def kg:aK:=⟨[.val bw],[.val .bool],fun x=>mc x.1⟩
noncomputable def vk:Cx:=⟨Tryz.prog,[(9,u6),(10,xY),(11,gT),(12,tH),(13,uZ),(14,w9)]⟩
theorem Fm:∀ x,aU vk s5 none Tryz.f3 kg x=kg.m x:=by intro x;kernel_rfl
theorem Gi:aN Tryz.prog 3 kg:=aI (X:=vk) (.cons Wu Wq (.cons Xt XL (.cons Gl Ga (.cons UO Vd (.cons V3 V4 (.cons Yc X4 (.nil _))))))) (by kernel_rfl) kg s5 none (by kernel_rfl) (fun x y h=>(Fm x).trans h)
end Go.Proofs.SeatS
