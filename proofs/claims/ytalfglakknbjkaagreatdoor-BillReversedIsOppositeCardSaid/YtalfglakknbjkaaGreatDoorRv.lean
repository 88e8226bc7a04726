/-
  Each function that the law reaches is as its plain model says. No condition.
-/
import Derived.Test.YtalfglakknbjkaaGreatDoorRn
import Derived.Test.YtalfglakknbjkaaGreatDoorRd
import Derived.Test.YtalfglakknbjkaaGreatDoorProg
import Derived.Shelf.Strings.SlTrimAscii
import Derived.Shelf.Small.Strs
set_option linter.all false
namespace Go.Proofs
open Go.Shelf
def Tryz.Q3:Go.Shelf.Ren:=⟨fun | 160=>94 | 232=>149 | 231=>148 | 227=>150 | 234=>152 | 233=>151 | 236=>154 | 235=>153 | 228=>198 | 271=>201 | 151=>200 | 197=>199 | 120=>226 | 152=>225 | 260=>224 | 137=>236 | 119=>237 | 224=>229 | 225=>228 | 217=>227 | 266=>238 | n=>n,fun | 9=>9 | 4=>4 | 3=>3 | 5=>5 | 117=>205 | 116=>204 | 0=>0 | 124=>208 | 21=>21 | 105=>243 | 46=>177 | 119=>275 | 139=>278 | 138=>277 | n=>n,fun | 3=>1 | 4=>2 | n=>n⟩
theorem Tryz.UU:Go.Proofs.Lays.n160 Tryz.prog Tryz.Q3:={
 mixed:=by kernel_rfl
 f119:=Tryz.func237.trans (congrArg some (by kernel_rfl))
 f120:=Tryz.func226.trans (congrArg some (by kernel_rfl))
 f137:=Tryz.func236.trans (congrArg some (by kernel_rfl))
 f151:=Tryz.func200.trans (congrArg some (by kernel_rfl))
 f152:=Tryz.func225.trans (congrArg some (by kernel_rfl))
 f160:=Tryz.func94.trans (congrArg some (by kernel_rfl))
 f197:=Tryz.func199.trans (congrArg some (by kernel_rfl))
 f217:=Tryz.func227.trans (congrArg some (by kernel_rfl))
 f224:=Tryz.func229.trans (congrArg some (by kernel_rfl))
 f225:=Tryz.func228.trans (congrArg some (by kernel_rfl))
 f227:=Tryz.func150.trans (congrArg some (by kernel_rfl))
 f228:=Tryz.func198.trans (congrArg some (by kernel_rfl))
 f231:=Tryz.func148.trans (congrArg some (by kernel_rfl))
 f232:=Tryz.func149.trans (congrArg some (by kernel_rfl))
 f233:=Tryz.func151.trans (congrArg some (by kernel_rfl))
 f234:=Tryz.func152.trans (congrArg some (by kernel_rfl))
 f235:=Tryz.func153.trans (congrArg some (by kernel_rfl))
 f236:=Tryz.func154.trans (congrArg some (by kernel_rfl))
 f260:=Tryz.func224.trans (congrArg some (by kernel_rfl))
 f266:=Tryz.func238.trans (congrArg some (by kernel_rfl))
 f271:=Tryz.func201.trans (congrArg some (by kernel_rfl))
 t0:=Tryz.underlying0
 a0:=Tryz.isAgg0
 z0:=Tryz.sizeOf0
 v0:=Tryz.zeroValue0
 t3:=Tryz.underlying3
 a3:=Tryz.isAgg3
 z3:=Tryz.sizeOf3
 v3:=Tryz.zeroValue3
 t4:=Tryz.underlying4
 a4:=Tryz.isAgg4
 z4:=Tryz.sizeOf4
 v4:=Tryz.zeroValue4
 t5:=Tryz.underlying5
 a5:=Tryz.isAgg5
 z5:=Tryz.sizeOf5
 v5:=Tryz.zeroValue5
 t9:=Tryz.underlying9
 a9:=Tryz.isAgg9
 z9:=Tryz.sizeOf9
 v9:=Tryz.zeroValue9
 t21:=Tryz.underlying21
 a21:=Tryz.isAgg21
 z21:=Tryz.sizeOf21
 v21:=Tryz.zeroValue21
 t46:=Tryz.underlying177
 a46:=Tryz.isAgg177
 z46:=Tryz.sizeOf177
 v46:=Tryz.zeroValue177
 t105:=Tryz.underlying243
 a105:=Tryz.isAgg243
 z105:=Tryz.sizeOf243
 v105:=Tryz.zeroValue243
 t116:=Tryz.underlying204
 a116:=Tryz.isAgg204
 z116:=Tryz.sizeOf204
 t117:=Tryz.underlying205
 a117:=Tryz.isAgg205
 z117:=Tryz.sizeOf205
 v117:=Tryz.zeroValue205
 t119:=Tryz.underlying275
 a119:=Tryz.isAgg275
 z119:=Tryz.sizeOf275
 t124:=Tryz.underlying208
 a124:=Tryz.isAgg208
 z124:=Tryz.sizeOf208
 v124:=Tryz.zeroValue208
 t138:=Tryz.underlying277
 a138:=Tryz.isAgg277
 z138:=Tryz.sizeOf277
 v138:=Tryz.zeroValue277
 t139:=Tryz.underlying278
 a139:=Tryz.isAgg278
 z139:=Tryz.sizeOf278
 v139:=Tryz.zeroValue278
 g3:=by kernel_rfl
 g4:=by kernel_rfl }
def Tryz.Q5:Go.Shelf.Ren:=⟨fun | 106=>185 | 213=>216 | 265=>233 | n=>n,fun | 9=>9 | 3=>3 | n=>n,fun | n=>n⟩
theorem Tryz.U9:Go.Proofs.Lays.n106 Tryz.prog Tryz.Q5:={
 mixed:=by kernel_rfl
 f106:=Tryz.func185.trans (congrArg some (by kernel_rfl))
 f213:=Tryz.func216.trans (congrArg some (by kernel_rfl))
 f265:=Tryz.func233.trans (congrArg some (by kernel_rfl))
 t3:=Tryz.underlying3
 a3:=Tryz.isAgg3
 z3:=Tryz.sizeOf3
 v3:=Tryz.zeroValue3
 t9:=Tryz.underlying9
 a9:=Tryz.isAgg9
 z9:=Tryz.sizeOf9
 v9:=Tryz.zeroValue9 }
end Go.Proofs
namespace Go.Proofs.SeatS
open Go.Dn Go.Md Go.Proofs Go.RowKit Go.Shelf Go.Lib
def zx:aH:=⟨[.val .str,.val .str],[.val .str],fun x=>qZ x.1 x.2.1⟩
theorem Mc:aA Tryz.prog 94:=ay (fn:=Tryz.f94) (by kernel_rfl) rfl (by decide)
theorem MM:aJ Tryz.prog 94 zx:=by
 intro G w ow args x y hG how ha hm
 refine Re (P:=Tryz.prog) (f:=94) (m:=zx.m) ?_ G w ow args x y hG how ha hm
 intro s c r w hm
 replace hm:qZ s c=some (r,()):=hm
 unfold qZ at hm
 cases hb:(decide (s.length≤9223372036854775807)&&(decide (c.length<4294967281)&&c.all fun b=>decide (b.toNat<128))) with
 | false=>rw [hb] at hm;cases hm
 | true=>
  rw [hb] at hm
  simp only [cond_true,Option.some.injEq,Prod.mk.injEq,and_true] at hm
  subst hm
  simp only [Wa,decide_eq_true_eq,WA] at hb
  have:=Any.strings_Trim_laid Tryz.UU (by kernel_rfl) (bs s) (bs c) w (by simpa [bs,ByteArray.size] using hb.1) (by simpa [bs,ByteArray.size] using hb.2.1) (fun j b hj=>hb.2.2 b (List.mem_of_getElem? (by simpa [bs] using hj)))
  change Calls Tryz.prog 94 _ _ _ at this
  simpa [bs] using this
def uY:aH:=⟨[.val .str,.val .str],[.val tI],fun x=>strings_Compare x.1 x.2.1⟩
theorem Jk:aA Tryz.prog 185:=ay (fn:=Tryz.f185) (by kernel_rfl) rfl (by decide)
theorem IN:aJ Tryz.prog 185 uY:=by
 intro G w ow args x y hG how ha hm
 refine TC (P:=Tryz.prog) (f:=185) (t:=tI) (m:=uY.m) ?_ G w ow args x y hG how ha hm
 intro s c r w hm
 replace hm:strings_Compare s c=some (r,()):=hm
 unfold strings_Compare at hm
 obtain rfl:Lib.compareBytes s c=r:=congrArg (fun o=>(Option.getD o (0,())).1) hm
 have:=Any.strings_Compare Tryz.U9 (bs s) (bs c) w
 refine ⟨.int .i64 (Lib.compareBytes s c),fun G=> ?_,this.mono ?_⟩
 ·rfl
 ·rintro e w' ⟨he,rfl⟩
  exact ⟨he,Below.refl _ _⟩
end Go.Proofs.SeatS
set_option maxRecDepth 100000
namespace Go.Proofs.SeatS
open Go.Dn Go.Md Go.Proofs
def wq:List CK:=[.val .bool,.own 223 (.int .u32)]
def jS:List CK:=[.val .bool,.val (.slice (.int .u32))]
def Sw:List CK:=[.val .bool,.val tI,.val tI,.val .str]
def Vv:List CK:=[.val .str,.val .str,.val tI,.val tI,.val tI,.val .bool,.own 94 cq,.own 97 cI,.own 102 bO]
def Vn:List CK:=[.val .str,.val .str,.val tI,.val tI,.val tI,.val .bool,.val (.slice cq),.rowR 43,.val (.slice bO)]
def Vy:List CK:=[.val .str,.val .str,.val tI,.val tI,.val tI,.val .bool,.val (.slice cq),.val (.slice cI),.val (.slice bO),.own 135 aj,.rowR 19,.rowR 10250004,.own 186 cF,.rowR 10250006,.rowR 21,.rowR 10250008]
def RZ:List CK:=[.val .str,.val .str,.val tI,.val tI,.val tI,.val .bool,.val (.slice cq),.val (.slice cI),.val (.slice bO),.own 135 aj,.val (.slice aj),.own 135 aj,.own 186 cF,.own 135 aj,.own 4 .bool,.own 135 aj]
def NJ:List CK:=[.val .str,.val .str,.val tI,.val tI,.val tI,.val .bool,.val (.slice cq),.val (.slice cI),.val (.slice bO),.rowR 10250002,.val (.slice aj),.rowR 10250004,.rowR 10250005,.rowR 10250006,.rowR 10250007,.rowR 10250008]
def Sy:List CK:=[.val .str,.val .str,.val tI,.val tI,.val tI,.val .bool,.val (.slice cq),.val (.slice cI),.val (.slice bO),.rowR 10250002,.val (.slice aj),.rowR 10250004,.rowR 10250005,.rowR 10250006,.rowR 10250007,.rowR 13]
def Fb:List CK:=[.val .str,.val .str,.val tI,.val tI,.val tI,.val .bool,.val (.slice cq),.val (.slice cI),.val (.slice bO)]
def O0:List CK:=[.val tI,.val tI,.val tI,.val (.slice .str)]
def CN:List CK:=[.val tI,.val tI]
def EU:List (Nat×Ann):=[]
noncomputable def iF:aH:=⟨[.val .str],[.val .bool],fun x=>gv x.1⟩
noncomputable def HZ:Cx:=⟨Tryz.prog,[(94,zx)]⟩
theorem Nt:∀ x,aZ HZ EU none Tryz.f38 iF x=iF.m x:=by intro x;kernel_rfl
theorem pE:aA Tryz.prog 38:=ay (fn:=Tryz.f38) (by kernel_rfl) rfl (by decide)
theorem pq:aJ Tryz.prog 38 iF:=aG (X:=HZ) (.cons MM Mc (.nil _)) (by kernel_rfl) iF EU none (by kernel_rfl) (fun x y h=>(Nt x).trans h)
def D4:List (Nat×Ann):=[]
noncomputable def dI:aH:=⟨[.val tI,.val tI,.val tI],[.val .bool],fun x=>b6 x.1 x.2.1 x.2.2.1⟩
noncomputable def FQ:Cx:=⟨Tryz.prog,[]⟩
theorem Mu:∀ x,aZ FQ D4 none Tryz.f39 dI x=dI.m x:=by intro x;kernel_rfl
theorem iJ:aA Tryz.prog 39:=ay (fn:=Tryz.f39) (by kernel_rfl) rfl (by decide)
theorem iN:aJ Tryz.prog 39 dI:=aG (X:=FQ) (.nil _) (by kernel_rfl) dI D4 none (by kernel_rfl) (fun x y h=>(Mu x).trans h)
def FI:List (Nat×Ann):=[]
noncomputable def og:aH:=⟨[.val tI],[.val .bool],fun x=>yt x.1⟩
noncomputable def I1:Cx:=⟨Tryz.prog,[(39,dI)]⟩
theorem OI:∀ x,aZ I1 FI none Tryz.f50 og x=og.m x:=by intro x;kernel_rfl
theorem DJ:aA Tryz.prog 50:=ay (fn:=Tryz.f50) (by kernel_rfl) rfl (by decide)
theorem Db:aJ Tryz.prog 50 og:=aG (X:=I1) (.cons iN iJ (.nil _)) (by kernel_rfl) og FI none (by kernel_rfl) (fun x y h=>(OI x).trans h)
def Cy:List (Nat×Ann):=[]
noncomputable def pR:aH:=⟨[.val tI],[.val .bool],fun x=>DK x.1⟩
noncomputable def EE:Cx:=⟨Tryz.prog,[(39,dI)]⟩
theorem Lu:∀ x,aZ EE Cy none Tryz.f90 pR x=pR.m x:=by intro x;kernel_rfl
theorem LQ:aA Tryz.prog 90:=ay (fn:=Tryz.f90) (by kernel_rfl) rfl (by decide)
theorem MV:aJ Tryz.prog 90 pR:=aG (X:=EE) (.cons iN iJ (.nil _)) (by kernel_rfl) pR Cy none (by kernel_rfl) (fun x y h=>(Lu x).trans h)
def uK:List (Nat×Ann):=[]
noncomputable def cn:aH:=⟨[.val aU],[.val tI],fun x=>bV x.1⟩
noncomputable def wO:Cx:=⟨Tryz.prog,[(39,dI)]⟩
theorem Eh:∀ x,aZ wO uK none Tryz.f102 cn x=cn.m x:=by intro x;kernel_rfl
theorem gB:aA Tryz.prog 102:=ay (fn:=Tryz.f102) (by kernel_rfl) rfl (by decide)
theorem gA:aJ Tryz.prog 102 cn:=aG (X:=wO) (.cons iN iJ (.nil _)) (by kernel_rfl) cn uK none (by kernel_rfl) (fun x y h=>(Eh x).trans h)
def EJ:List (Nat×Ann):=[(3,⟨[(3,.val tI),(4,.val tI),(5,.val tI)],[],[],aX _⟩),
 (200003,⟨[(3,.val tI)],[],[],fun _=>0⟩)]
noncomputable def nk:aH:=⟨[.val tI],[.val tI],fun x=>vu x.1⟩
noncomputable def HS:Cx:=⟨Tryz.prog,[]⟩
theorem Nc:∀ x,aZ HS EJ none Tryz.f160 nk x=nk.m x:=by intro x;kernel_rfl
theorem B0:aA Tryz.prog 160:=ay (fn:=Tryz.f160) (by kernel_rfl) rfl (by decide)
theorem B8:aJ Tryz.prog 160 nk:=aG (X:=HS) (.nil _) (by kernel_rfl) nk EJ none (by kernel_rfl) (fun x y h=>(Nc x).trans h)
def Cg:List (Nat×Ann):=[]
noncomputable def jk:aH:=⟨[.val aU,.val tI],[.val .bool],fun x=>eV x.1 x.2.1⟩
noncomputable def EX:Cx:=⟨Tryz.prog,[(39,dI),(160,nk)]⟩
theorem Lv:∀ x,aZ EX Cg none Tryz.f103 jk x=jk.m x:=by intro x;kernel_rfl
theorem tO:aA Tryz.prog 103:=ay (fn:=Tryz.f103) (by kernel_rfl) rfl (by decide)
theorem tQ:aJ Tryz.prog 103 jk:=aG (X:=EX) (.cons iN iJ (.cons B8 B0 (.nil _))) (by kernel_rfl) jk Cg none (by kernel_rfl) (fun x y h=>(Lv x).trans h)
def zn:List (Nat×Ann):=[(6,⟨[(0,.val (.slice cq)),(12,.val (.slice cq)),(13,.val tI),(14,.val tI)],[],[],aX _⟩),
 (200006,⟨[],[],[],fun _=>0⟩)]
noncomputable def mG:aH:=⟨[.val (.slice cq)],[.val tI],fun x=>mV x.1⟩
noncomputable def BD:Cx:=⟨Tryz.prog,[(38,iF),(102,cn),(103,jk)]⟩
theorem Ii:∀ x,aZ BD zn none Tryz.f91 mG x=mG.m x:=by intro x;kernel_rfl
theorem I3:aA Tryz.prog 91:=ay (fn:=Tryz.f91) (by kernel_rfl) rfl (by decide)
theorem Js:aJ Tryz.prog 91 mG:=aG (X:=BD) (.cons pq pE (.cons gA gB (.cons tQ tO (.nil _)))) (by kernel_rfl) mG zn none (by kernel_rfl) (fun x y h=>(Ii x).trans h)
def Dh:List (Nat×Ann):=[(3,⟨[(3,.val tI),(4,.val tI),(5,.val tI)],[],[],aX _⟩),
 (200003,⟨[(3,.val tI)],[],[],fun _=>0⟩)]
noncomputable def qW:aH:=⟨[.val tI],[.val tI],fun x=>Fu x.1⟩
noncomputable def Gg:Cx:=⟨Tryz.prog,[]⟩
theorem LS:∀ x,aZ Gg Dh none Tryz.f223 qW x=qW.m x:=by intro x;kernel_rfl
theorem Nw:aA Tryz.prog 223:=ay (fn:=Tryz.f223) (by kernel_rfl) rfl (by decide)
theorem No:aJ Tryz.prog 223 qW:=aG (X:=Gg) (.nil _) (by kernel_rfl) qW Dh none (by kernel_rfl) (fun x y h=>(LS x).trans h)
def Ct:List (Nat×Ann):=[]
noncomputable def p8:aH:=⟨[.val aU,.val tI,.val tI],[.val .bool],fun x=>Dx x.1 x.2.1 x.2.2.1⟩
noncomputable def En:Cx:=⟨Tryz.prog,[(223,qW)]⟩
theorem Lc:∀ x,aZ En Ct none Tryz.f197 p8 x=p8.m x:=by intro x;kernel_rfl
theorem MC:aA Tryz.prog 197:=ay (fn:=Tryz.f197) (by kernel_rfl) rfl (by decide)
theorem Mq:aJ Tryz.prog 197 p8:=aG (X:=En) (.cons No Nw (.nil _)) (by kernel_rfl) p8 Ct none (by kernel_rfl) (fun x y h=>(Lc x).trans h)
def yf:List (Nat×Ann):=[]
noncomputable def lu:aH:=⟨[.val aU],[.val tI],fun x=>oN x.1⟩
noncomputable def zT:Cx:=⟨Tryz.prog,[(102,cn),(197,p8)]⟩
theorem Hf:∀ x,aZ zT yf none Tryz.f146 lu x=lu.m x:=by intro x;kernel_rfl
theorem Ip:aA Tryz.prog 146:=ay (fn:=Tryz.f146) (by kernel_rfl) rfl (by decide)
theorem Ic:aJ Tryz.prog 146 lu:=aG (X:=zT) (.cons gA gB (.cons Mq MC (.nil _))) (by kernel_rfl) lu yf none (by kernel_rfl) (fun x y h=>(Hf x).trans h)
def BO:List (Nat×Ann):=[]
noncomputable def oI:aH:=⟨[.val cq,.val .str],[.val tI],fun x=>B5 x.1 x.2.1⟩
noncomputable def DY:Cx:=⟨Tryz.prog,[(185,uY)]⟩
theorem Kj:∀ x,aZ DY BO none Tryz.f184 oI x=oI.m x:=by intro x;kernel_rfl
theorem Lp:aA Tryz.prog 184:=ay (fn:=Tryz.f184) (by kernel_rfl) rfl (by decide)
theorem LN:aJ Tryz.prog 184 oI:=aG (X:=DY) (.cons IN Jk (.nil _)) (by kernel_rfl) oI BO none (by kernel_rfl) (fun x y h=>(Kj x).trans h)
def jF:List (Nat×Ann):=[(3,⟨[(0,.val (.slice cq)),(1,.val .str),(2,.val (.clo 184 .unit)),(8,.val tI),(9,.val tI),(10,.val tI)],[],[],aX _⟩),
 (200003,⟨[(0,.val (.slice cq)),(1,.val .str),(2,.val (.clo 184 .unit)),(8,.val tI),(9,.val tI)],[],[],fun _=>0⟩)]
noncomputable def b9:aH:=⟨[.val (.slice cq),.val .str,.val (.clo 184 .unit)],[.val tI,.val .bool],fun x=>dL x.1 x.2.1 x.2.2.1⟩
noncomputable def ke:Cx:=⟨Tryz.prog,[(184,oI)]⟩
theorem qy:∀ x,aZ ke jF none Tryz.f183 b9 x=b9.m x:=by intro x;kernel_rfl
theorem rE:aA Tryz.prog 183:=ay (fn:=Tryz.f183) (by kernel_rfl) rfl (by decide)
theorem qS:aJ Tryz.prog 183 b9:=aG (X:=ke) (.cons LN Lp (.nil _)) (by kernel_rfl) b9 jF none (by kernel_rfl) (fun x y h=>(qy x).trans h)
def DV:List (Nat×Ann):=[]
noncomputable def lR:aH:=⟨[.val (.slice cq),.val .str],[.val tI,.val .bool],fun x=>qb x.1 x.2.1⟩
noncomputable def FL:Cx:=⟨Tryz.prog,[(183,b9)]⟩
theorem LU:∀ x,aZ FL DV none Tryz.f124 lR x=lR.m x:=by intro x;kernel_rfl
theorem AO:aA Tryz.prog 124:=ay (fn:=Tryz.f124) (by kernel_rfl) rfl (by decide)
theorem AR:aJ Tryz.prog 124 lR:=aG (X:=FL) (.cons qS rE (.nil _)) (by kernel_rfl) lR DV none (by kernel_rfl) (fun x y h=>(LU x).trans h)
def Cw:List (Nat×Ann):=[]
noncomputable def m8:aH:=⟨[.val bK,.val .str],[.val .bool],fun x=>jv x.1 x.2.1⟩
noncomputable def EG:Cx:=⟨Tryz.prog,[(124,lR)]⟩
theorem Lj:∀ x,aZ EG Cw none Tryz.f147 m8 x=m8.m x:=by intro x;kernel_rfl
theorem EK:aA Tryz.prog 147:=ay (fn:=Tryz.f147) (by kernel_rfl) rfl (by decide)
theorem EH:aJ Tryz.prog 147 m8:=aG (X:=EG) (.cons AR AO (.nil _)) (by kernel_rfl) m8 Cw none (by kernel_rfl) (fun x y h=>(Lj x).trans h)
def ym:List (Nat×Ann):=[(4,⟨[(2,.val .bool),(3,.ref 3 0),(13,.val (.slice bO)),(14,.val tI),(15,.val tI)],[(3,Fb)],[],aX _⟩),
 (100012,⟨[(2,.val .bool),(3,.ref 3 0),(8,.ref 8 0),(13,.val (.slice bO)),(14,.val tI),(15,.val tI),(30,.val .bool)],[(3,Fb),(8,Sw)],[],fun _=>0⟩),
 (200004,⟨[],[],[],fun _=>0⟩)]
noncomputable def ju:aH:=⟨[.val bK,.val (.slice bO),.val .bool],[.val tI],fun x=>jR x.1 x.2.1 x.2.2.1⟩
noncomputable def Ad:Cx:=⟨Tryz.prog,[(102,cn),(103,jk),(147,m8)]⟩
theorem GR:∀ x,aZ Ad ym none Tryz.f93 ju x=ju.m x:=by intro x;kernel_rfl
theorem zY:aA Tryz.prog 93:=ay (fn:=Tryz.f93) (by kernel_rfl) rfl (by decide)
theorem zU:aJ Tryz.prog 93 ju:=aG (X:=Ad) (.cons gA gB (.cons tQ tO (.cons EH EK (.nil _)))) (by kernel_rfl) ju ym none (by kernel_rfl) (fun x y h=>(GR x).trans h)
def zZ:List (Nat×Ann):=[]
noncomputable def nL:aH:=⟨[.val bK,.val tI],[.val tI],fun x=>ru x.1 x.2.1⟩
noncomputable def Ci:Cx:=⟨Tryz.prog,[(38,iF),(39,dI),(93,ju),(102,cn),(103,jk),(146,lu),(147,m8)]⟩
theorem Jx:∀ x,aZ Ci zZ none Tryz.f92 nL x=nL.m x:=by intro x;kernel_rfl
theorem Kw:aA Tryz.prog 92:=ay (fn:=Tryz.f92) (by kernel_rfl) rfl (by decide)
theorem Kk:aJ Tryz.prog 92 nL:=aG (X:=Ci) (.cons pq pE (.cons iN iJ (.cons zU zY (.cons gA gB (.cons tQ tO (.cons Ic Ip (.cons EH EK (.nil _)))))))) (by kernel_rfl) nL zZ none (by kernel_rfl) (fun x y h=>(Jx x).trans h)
def xA:List (Nat×Ann):=[(15,⟨[(1,.ref 1 0),(48,.val tI),(49,.val tI)],[(1,Fb)],[],aX _⟩),
 (200015,⟨[(1,.ref 1 0)],[(1,Fb)],[],fun _=>0⟩)]
noncomputable def iL:aH:=⟨[.val bK],[.val tI],fun x=>kQ x.1⟩
noncomputable def zb:Cx:=⟨Tryz.prog,[(38,iF),(39,dI),(50,og),(90,pR),(91,mG),(92,nL),(93,ju)]⟩
theorem FD:∀ x,aZ zb xA none Tryz.f37 iL x=iL.m x:=by intro x;kernel_rfl
theorem zK:aA Tryz.prog 37:=ay (fn:=Tryz.f37) (by kernel_rfl) rfl (by decide)
theorem zg:aJ Tryz.prog 37 iL:=aG (X:=zb) (.cons pq pE (.cons iN iJ (.cons Db DJ (.cons MV LQ (.cons Js I3 (.cons Kk Kw (.cons zU zY (.nil _)))))))) (by kernel_rfl) iL xA none (by kernel_rfl) (fun x y h=>(FD x).trans h)
def sK:List (Nat×Ann):=[]
noncomputable def iE:aH:=⟨[.val (.slice cq)],[.val (.slice cq)],fun x=>j7 x.1⟩
noncomputable def uB:Cx:=⟨Tryz.prog,[]⟩
theorem CB:∀ x,aZ uB sK none Tryz.f40 iE x=iE.m x:=by intro x;kernel_rfl
theorem Dd:aA Tryz.prog 40:=ay (fn:=Tryz.f40) (by kernel_rfl) rfl (by decide)
theorem Dc:aJ Tryz.prog 40 iE:=aG (X:=uB) (.nil _) (by kernel_rfl) iE sK none (by kernel_rfl) (fun x y h=>(CB x).trans h)
def pI:List (Nat×Ann):=[]
noncomputable def fW:aH:=⟨[.val (.slice cI)],[.row 97 cI],fun x=>gJ x.1⟩
noncomputable def q8:Cx:=⟨Tryz.prog,[]⟩
theorem zS:∀ x,aZ q8 pI none Tryz.f41 fW x=fW.m x:=by intro x;kernel_rfl
theorem AP:aA Tryz.prog 41:=ay (fn:=Tryz.f41) (by kernel_rfl) rfl (by decide)
theorem AE:aJ Tryz.prog 41 fW:=aG (X:=q8) (.nil _) (by kernel_rfl) fW pI none (by kernel_rfl) (fun x y h=>(zS x).trans h)
def rR:List (Nat×Ann):=[]
noncomputable def gH:aH:=⟨[.val (.slice bO)],[.row 102 bO],fun x=>mm x.1⟩
noncomputable def tP:Cx:=⟨Tryz.prog,[]⟩
theorem B1:∀ x,aZ tP rR none Tryz.f95 gH x=gH.m x:=by intro x;kernel_rfl
theorem CF:aA Tryz.prog 95:=ay (fn:=Tryz.f95) (by kernel_rfl) rfl (by decide)
theorem CQ:aJ Tryz.prog 95 gH:=aG (X:=tP) (.nil _) (by kernel_rfl) gH rR none (by kernel_rfl) (fun x y h=>(B1 x).trans h)
def Ey:List (Nat×Ann):=[]
noncomputable def pz:aH:=⟨[.val aU],[.val aU],fun x=>zH x.1⟩
noncomputable def HD:Cx:=⟨Tryz.prog,[]⟩
theorem Nz:∀ x,aZ HD Ey none Tryz.f43 pz x=pz.m x:=by intro x;kernel_rfl
theorem HF:aA Tryz.prog 43:=ay (fn:=Tryz.f43) (by kernel_rfl) rfl (by decide)
theorem HV:aJ Tryz.prog 43 pz:=aG (X:=HD) (.nil _) (by kernel_rfl) pz Ey none (by kernel_rfl) (fun x y h=>(Nz x).trans h)
def BI:List (Nat×Ann):=[(3,⟨[(0,.rowR 23824),(7,.rowR 23824),(8,.val tI),(9,.val tI)],[],[.rowC 23824 102 bO],aX _⟩),
 (200003,⟨[(0,.rowR 23824)],[],[.rowC 23824 102 bO],fun _=>0⟩)]
noncomputable def oo:aH:=⟨[.val (.slice bO)],[.val (.slice bO)],fun x=>nh x.1⟩
noncomputable def DS:Cx:=⟨Tryz.prog,[(43,pz),(95,gH)]⟩
theorem Ko:∀ x,aZ DS BI none Tryz.f42 oo x=oo.m x:=by intro x;kernel_rfl
theorem Lw:aA Tryz.prog 42:=ay (fn:=Tryz.f42) (by kernel_rfl) rfl (by decide)
theorem LH:aJ Tryz.prog 42 oo:=aG (X:=DS) (.cons HV HF (.cons CQ CF (.nil _))) (by kernel_rfl) oo BI none (by kernel_rfl) (fun x y h=>(Ko x).trans h)
def BM:List (Nat×Ann):=[(14,⟨[(6,.ref 6 0),(9,.ref 9 0),(51,.rowR 43),(52,.val tI),(53,.val tI)],[(6,Vv),(9,Vn)],[.rowC 43 97 cI],aX _⟩),
 (200014,⟨[(6,.ref 6 0),(9,.ref 9 0)],[(6,Vv),(9,Vn)],[.rowC 43 97 cI],fun _=>0⟩)]
noncomputable def n9:aH:=⟨[.val bK,.val .str,.val tI],[.val bK,.val tI],fun x=>s6 x.1 x.2.1 x.2.2.1⟩
noncomputable def C6:Cx:=⟨Tryz.prog,[(37,iL),(38,iF),(39,dI),(40,iE),(41,fW),(42,oo),(43,pz)]⟩
theorem KK:∀ x,aZ C6 BM none Tryz.f16 n9 x=n9.m x:=by intro x;kernel_rfl
theorem Lx:aA Tryz.prog 16:=ay (fn:=Tryz.f16) (by kernel_rfl) rfl (by decide)
theorem LL:aJ Tryz.prog 16 n9:=aG (X:=C6) (.cons zg zK (.cons pq pE (.cons iN iJ (.cons Dc Dd (.cons AE AP (.cons LH Lw (.cons HV HF (.nil _)))))))) (by kernel_rfl) n9 BM none (by kernel_rfl) (fun x y h=>(KK x).trans h)
def wS:List (Nat×Ann):=[]
noncomputable def kO:aH:=⟨[.val fN,.val (.ptr fN)],[.val .bool],fun x=>Cs x.1 x.2.1⟩
noncomputable def zJ:Cx:=⟨Tryz.prog,[]⟩
theorem FW:∀ x,aZ zJ wS none Tryz.f49 kO x=kO.m x:=by intro x;kernel_rfl
theorem GM:aA Tryz.prog 49:=ay (fn:=Tryz.f49) (by kernel_rfl) rfl (by decide)
theorem GV:aJ Tryz.prog 49 kO:=aG (X:=zJ) (.nil _) (by kernel_rfl) kO wS none (by kernel_rfl) (fun x y h=>(FW x).trans h)
def p6:List (Nat×Ann):=[(2,⟨[(0,.val (.slice fN)),(1,.val (.clo 49 (.ptr fN))),(7,.val tI),(8,.val tI)],[],[],aX _⟩),
 (200002,⟨[],[],[],fun _=>0⟩)]
noncomputable def fY:aH:=⟨[.val (.slice fN),.val (.clo 49 (.ptr fN))],[.val tI],fun x=>tU x.1 x.2.1⟩
noncomputable def qQ:Cx:=⟨Tryz.prog,[(49,kO)]⟩
theorem zO:∀ x,aZ qQ p6 none Tryz.f101 fY x=fY.m x:=by intro x;kernel_rfl
theorem AA:aA Tryz.prog 101:=ay (fn:=Tryz.f101) (by kernel_rfl) rfl (by decide)
theorem Ap:aJ Tryz.prog 101 fY:=aG (X:=qQ) (.cons GV GM (.nil _)) (by kernel_rfl) fY p6 none (by kernel_rfl) (fun x y h=>(zO x).trans h)
def nW:List (Nat×Ann):=[]
noncomputable def eJ:aH:=⟨[.val (.slice fN),.val (.clo 49 (.ptr fN))],[.val .bool],fun x=>rD x.1 x.2.1⟩
noncomputable def oY:Cx:=⟨Tryz.prog,[(101,fY)]⟩
theorem yb:∀ x,aZ oY nW none Tryz.f48 eJ x=eJ.m x:=by intro x;kernel_rfl
theorem yG:aA Tryz.prog 48:=ay (fn:=Tryz.f48) (by kernel_rfl) rfl (by decide)
theorem yF:aJ Tryz.prog 48 eJ:=aG (X:=oY) (.cons Ap AA (.nil _)) (by kernel_rfl) eJ nW none (by kernel_rfl) (fun x y h=>(yb x).trans h)
def zF:List (Nat×Ann):=[]
noncomputable def jW:aH:=⟨[.val aU],[.val tI],fun x=>p5 x.1⟩
noncomputable def Bc:Cx:=⟨Tryz.prog,[(102,cn),(103,jk)]⟩
theorem Ik:∀ x,aZ Bc zF none Tryz.f51 jW x=jW.m x:=by intro x;kernel_rfl
theorem BH:aA Tryz.prog 51:=ay (fn:=Tryz.f51) (by kernel_rfl) rfl (by decide)
theorem Bv:aJ Tryz.prog 51 jW:=aG (X:=Bc) (.cons gA gB (.cons tQ tO (.nil _))) (by kernel_rfl) jW zF none (by kernel_rfl) (fun x y h=>(Ik x).trans h)
def zE:List (Nat×Ann):=[(4,⟨[(0,.val (.slice fN)),(9,.val (.slice fN)),(10,.val tI),(11,.val tI)],[],[],aX _⟩),
 (200004,⟨[],[],[],fun _=>0⟩)]
noncomputable def mz:aH:=⟨[.val (.slice fN)],[.val tI],fun x=>EL x.1⟩
noncomputable def BL:Cx:=⟨Tryz.prog,[(38,iF),(39,dI),(48,eJ),(50,og),(51,jW)]⟩
theorem Io:∀ x,aZ BL zE none Tryz.f21 mz x=mz.m x:=by intro x;kernel_rfl
theorem Ju:aA Tryz.prog 21:=ay (fn:=Tryz.f21) (by kernel_rfl) rfl (by decide)
theorem ID:aJ Tryz.prog 21 mz:=aG (X:=BL) (.cons pq pE (.cons iN iJ (.cons yF yG (.cons Db DJ (.cons Bv BH (.nil _)))))) (by kernel_rfl) mz zE none (by kernel_rfl) (fun x y h=>(Io x).trans h)
def ve:List (Nat×Ann):=[(2,⟨[(0,.val (.slice .str)),(1,.val .str),(7,.val tI),(8,.val tI)],[],[],aX _⟩),
 (200002,⟨[],[],[],fun _=>0⟩)]
noncomputable def jC:aH:=⟨[.val (.slice .str),.val .str],[.val tI],fun x=>Ai x.1 x.2.1⟩
noncomputable def xd:Cx:=⟨Tryz.prog,[]⟩
theorem Ee:∀ x,aZ xd ve none Tryz.f204 jC x=jC.m x:=by intro x;kernel_rfl
theorem E6:aA Tryz.prog 204:=ay (fn:=Tryz.f204) (by kernel_rfl) rfl (by decide)
theorem E1:aJ Tryz.prog 204 jC:=aG (X:=xd) (.nil _) (by kernel_rfl) jC ve none (by kernel_rfl) (fun x y h=>(Ee x).trans h)
def rO:List (Nat×Ann):=[]
noncomputable def gL:aH:=⟨[.val (.slice .str),.val .str],[.val .bool],fun x=>wQ x.1 x.2.1⟩
noncomputable def tY:Cx:=⟨Tryz.prog,[(204,jC)]⟩
theorem BW:∀ x,aZ tY rO none Tryz.f161 gL x=gL.m x:=by intro x;kernel_rfl
theorem CH:aA Tryz.prog 161:=ay (fn:=Tryz.f161) (by kernel_rfl) rfl (by decide)
theorem CL:aJ Tryz.prog 161 gL:=aG (X:=tY) (.cons E1 E6 (.nil _)) (by kernel_rfl) gL rO none (by kernel_rfl) (fun x y h=>(BW x).trans h)
def vT:List (Nat×Ann):=[(4,⟨[(0,.val (.slice cy)),(11,.val (.slice cy)),(12,.val tI),(13,.val tI)],[],[],aX _⟩),
 (16,⟨[(0,.val (.slice cy)),(4,.ref 4 0),(11,.val (.slice cy)),(12,.val tI),(13,.val tI),(46,.val (.slice .str)),(47,.val tI),(48,.val tI)],[(4,O0)],[],aX _⟩),
 (200004,⟨[],[],[],fun _=>0⟩),
 (200016,⟨[(0,.val (.slice cy)),(11,.val (.slice cy)),(12,.val tI),(13,.val tI)],[],[],fun _=>0⟩)]
noncomputable def j8:aH:=⟨[.val (.slice cy)],[.val tI],fun x=>Ba x.1⟩
noncomputable def yo:Cx:=⟨Tryz.prog,[(38,iF),(50,og),(51,jW),(161,gL)]⟩
theorem E0:∀ x,aZ yo vT none Tryz.f104 j8 x=j8.m x:=by intro x;kernel_rfl
theorem Gt:aA Tryz.prog 104:=ay (fn:=Tryz.f104) (by kernel_rfl) rfl (by decide)
theorem Gf:aJ Tryz.prog 104 j8:=aG (X:=yo) (.cons pq pE (.cons Db DJ (.cons Bv BH (.cons CL CH (.nil _))))) (by kernel_rfl) j8 vT none (by kernel_rfl) (fun x y h=>(E0 x).trans h)
def Ah:List (Nat×Ann):=[]
noncomputable def nK:aH:=⟨[.val (.slice fN),.val (.slice cy)],[.val tI],fun x=>Gs x.1 x.2.1⟩
noncomputable def Cl:Cx:=⟨Tryz.prog,[(21,mz),(104,j8)]⟩
theorem IC:∀ x,aZ Cl Ah none Tryz.f52 nK x=nK.m x:=by intro x;kernel_rfl
theorem KE:aA Tryz.prog 52:=ay (fn:=Tryz.f52) (by kernel_rfl) rfl (by decide)
theorem Kg:aJ Tryz.prog 52 nK:=aG (X:=Cl) (.cons ID Ju (.cons Gf Gt (.nil _))) (by kernel_rfl) nK Ah none (by kernel_rfl) (fun x y h=>(IC x).trans h)
def ES:List (Nat×Ann):=[]
noncomputable def sO:aH:=⟨[.val aU],[.val tI],fun x=>Hi x.1⟩
noncomputable def H9:Cx:=⟨Tryz.prog,[(160,nk)]⟩
theorem Np:∀ x,aZ H9 ES none Tryz.f105 sO x=sO.m x:=by intro x;kernel_rfl
theorem OF:aA Tryz.prog 105:=ay (fn:=Tryz.f105) (by kernel_rfl) rfl (by decide)
theorem Oz:aJ Tryz.prog 105 sO:=aG (X:=H9) (.cons B8 B0 (.nil _)) (by kernel_rfl) sO ES none (by kernel_rfl) (fun x y h=>(Np x).trans h)
def q7:List (Nat×Ann):=[]
noncomputable def gx:aH:=⟨[.val (.slice .hnd)],[.row 113 .hnd],fun x=>vQ x.1⟩
noncomputable def sM:Cx:=⟨Tryz.prog,[]⟩
theorem BC:∀ x,aZ sM q7 none Tryz.f106 gx x=gx.m x:=by intro x;kernel_rfl
theorem B3:aA Tryz.prog 106:=ay (fn:=Tryz.f106) (by kernel_rfl) rfl (by decide)
theorem B7:aJ Tryz.prog 106 gx:=aG (X:=sM) (.nil _) (by kernel_rfl) gx q7 none (by kernel_rfl) (fun x y h=>(BC x).trans h)
def Ag:List (Nat×Ann):=[]
noncomputable def nu:aH:=⟨[.val .hnd,.arR aN],[.val tI],fun x=>AD x.1 x.2.1⟩
noncomputable def Cv:Cx:=⟨Tryz.prog,[]⟩
theorem IP:∀ x,aZ Cv Ag none Tryz.f109 nu x=nu.m x:=by intro x;kernel_rfl
theorem Ky:aA Tryz.prog 109:=ay (fn:=Tryz.f109) (by kernel_rfl) rfl (by decide)
theorem Ki:aJ Tryz.prog 109 nu:=aG (X:=Cv) (.nil _) (by kernel_rfl) nu Ag none (by kernel_rfl) (fun x y h=>(IP x).trans h)
def zC:List (Nat×Ann):=[]
noncomputable def jY:aH:=⟨[.val .hnd,.val .hnd,.arR aN],[.val tI],fun x=>pJ x.1 x.2.1 x.2.2.1⟩
noncomputable def Bu:Cx:=⟨Tryz.prog,[(109,nu)]⟩
theorem Il:∀ x,aZ Bu zC none Tryz.f108 jY x=jY.m x:=by intro x;kernel_rfl
theorem Bt:aA Tryz.prog 108:=ay (fn:=Tryz.f108) (by kernel_rfl) rfl (by decide)
theorem A9:aJ Tryz.prog 108 jY:=aG (X:=Bu) (.cons Ki Ky (.nil _)) (by kernel_rfl) jY zC none (by kernel_rfl) (fun x y h=>(Il x).trans h)
def jQ:List (Nat×Ann):=[(1,⟨[(0,.rowR 10250000),(1,.val tI),(2,.val tI),(3,.val (.clo 108 .unit)),(8,.val tI)],[],[.rowC 10250000 113 .hnd,.arF aN],aX _⟩),
 (4,⟨[(0,.rowR 10250000),(1,.val tI),(2,.val tI),(3,.val (.clo 108 .unit)),(8,.val tI),(9,.val tI)],[],[.rowC 10250000 113 .hnd,.arF aN],aX _⟩),
 (200001,⟨[],[],[.rowC 10250000 113 .hnd,.arF aN],fun _=>0⟩),
 (200004,⟨[(0,.rowR 10250000),(1,.val tI),(2,.val tI),(3,.val (.clo 108 .unit)),(8,.val tI)],[],[.rowC 10250000 113 .hnd,.arF aN],fun _=>0⟩)]
noncomputable def cm:aH:=⟨[.mrow 113 .hnd,.val tI,.val tI,.val (.clo 108 .unit),.arR aN],[],fun x=>gG x.1 x.2.1 x.2.2.1 x.2.2.2.1 x.2.2.2.2.1⟩
noncomputable def kz:Cx:=⟨Tryz.prog,[(108,jY)]⟩
theorem qU:∀ x,aZ kz jQ none Tryz.f205 cm x=cm.m x:=by intro x;kernel_rfl
theorem rK:aA Tryz.prog 205:=ay (fn:=Tryz.f205) (by kernel_rfl) rfl (by decide)
theorem rJ:aJ Tryz.prog 205 cm:=aG (X:=kz) (.cons A9 Bt (.nil _)) (by kernel_rfl) cm jQ none (by kernel_rfl) (fun x y h=>(qU x).trans h)
def kY:List (Nat×Ann):=[(1,⟨[(0,.rowR 10250000),(1,.val tI),(2,.val tI),(3,.val tI),(10,.val tI)],[],[.rowC 10250000 113 .hnd,.arF aN],aX _⟩),
 (200001,⟨[],[],[.rowC 10250000 113 .hnd,.arF aN],fun _=>0⟩)]
noncomputable def cJ:aH:=⟨[.mrow 113 .hnd,.val tI,.val tI,.val tI,.val (.clo 108 .unit),.arR aN],[],fun x=>fO x.1 x.2.1 x.2.2.1 x.2.2.2.1 x.2.2.2.2.1 x.2.2.2.2.2.1⟩
noncomputable def l8:Cx:=⟨Tryz.prog,[]⟩
theorem tH:∀ x,aZ l8 kY none Tryz.f240 cJ x=cJ.m x:=by intro x;kernel_rfl
theorem ud:aA Tryz.prog 240:=ay (fn:=Tryz.f240) (by kernel_rfl) rfl (by decide)
theorem uf:aJ Tryz.prog 240 cJ:=aG (X:=l8) (.nil _) (by kernel_rfl) cJ kY none (by kernel_rfl) (fun x y h=>(tH x).trans h)
def mq:List (Nat×Ann):=[(2,⟨[(0,.rowR 10250000),(2,.val tI),(4,.val (.clo 108 .unit)),(10,.val tI),(11,.val tI)],[],[.rowC 10250000 113 .hnd,.arF aN],aX _⟩),
 (200002,⟨[(0,.rowR 10250000),(2,.val tI),(4,.val (.clo 108 .unit)),(10,.val tI)],[],[.rowC 10250000 113 .hnd,.arF aN],fun _=>0⟩)]
noncomputable def dA:aH:=⟨[.mrow 113 .hnd,.val tI,.val tI,.val tI,.val (.clo 108 .unit),.arR aN],[],fun x=>o3 x.1 x.2.1 x.2.2.1 x.2.2.2.1 x.2.2.2.2.1 x.2.2.2.2.2.1⟩
noncomputable def nw:Cx:=⟨Tryz.prog,[(240,cJ)]⟩
theorem vz:∀ x,aZ nw mq none Tryz.f231 dA x=dA.m x:=by intro x;kernel_rfl
theorem wK:aA Tryz.prog 231:=ay (fn:=Tryz.f231) (by kernel_rfl) rfl (by decide)
theorem wu:aJ Tryz.prog 231 dA:=aG (X:=nw) (.cons uf ud (.nil _)) (by kernel_rfl) dA mq none (by kernel_rfl) (fun x y h=>(vz x).trans h)
def lG:List (Nat×Ann):=[(3,⟨[(0,.rowR 10250000),(1,.val tI),(4,.val (.clo 108 .unit)),(10,.val tI),(11,.val tI)],[],[.rowC 10250000 113 .hnd,.arF aN],aX _⟩),
 (9,⟨[(0,.rowR 10250000),(10,.val tI),(13,.val tI)],[],[.rowC 10250000 113 .hnd,.arF aN],aX _⟩),
 (15,⟨[(0,.rowR 10250000),(2,.val tI),(4,.val (.clo 108 .unit)),(14,.val tI),(15,.val tI)],[],[.rowC 10250000 113 .hnd,.arF aN],aX _⟩),
 (21,⟨[(0,.rowR 10250000),(14,.val tI),(17,.val tI)],[],[.rowC 10250000 113 .hnd,.arF aN],aX _⟩),
 (33,⟨[(0,.rowR 10250000),(1,.val tI),(2,.val tI),(3,.val tI),(4,.val (.clo 108 .unit)),(18,.val tI),(19,.val tI),(20,.val tI),(21,.val tI),(22,.val tI)],[],[.rowC 10250000 113 .hnd,.arF aN],aX _⟩),
 (100030,⟨[(0,.rowR 10250000),(1,.val tI),(2,.val tI),(3,.val tI),(4,.val (.clo 108 .unit)),(18,.val tI),(19,.val tI),(20,.val tI),(21,.val tI)],[],[.rowC 10250000 113 .hnd,.arF aN],fun _=>0⟩),
 (100040,⟨[(0,.rowR 10250000),(1,.val tI),(3,.val tI),(4,.val (.clo 108 .unit)),(18,.val tI),(20,.val tI),(24,.val tI)],[],[.rowC 10250000 113 .hnd,.arF aN],fun _=>0⟩),
 (100042,⟨[(0,.rowR 10250000),(3,.val tI),(4,.val (.clo 108 .unit)),(18,.val tI),(24,.val tI)],[],[.rowC 10250000 113 .hnd,.arF aN],fun _=>0⟩),
 (200003,⟨[(0,.rowR 10250000),(1,.val tI),(10,.val tI)],[],[.rowC 10250000 113 .hnd,.arF aN],fun _=>0⟩),
 (200009,⟨[],[],[.rowC 10250000 113 .hnd,.arF aN],fun _=>0⟩),
 (200015,⟨[(0,.rowR 10250000),(2,.val tI),(14,.val tI)],[],[.rowC 10250000 113 .hnd,.arF aN],fun _=>0⟩),
 (200021,⟨[],[],[.rowC 10250000 113 .hnd,.arF aN],fun _=>0⟩),
 (200033,⟨[(0,.rowR 10250000),(1,.val tI),(2,.val tI),(3,.val tI),(4,.val (.clo 108 .unit)),(18,.val tI),(19,.val tI),(20,.val tI)],[],[.rowC 10250000 113 .hnd,.arF aN],fun _=>0⟩)]
def bJ:List PM:=[.mrow 113 .hnd,.val tI,.val tI,.val tI,.val (.clo 108 .unit),.arR aN]
def ck:List RM:=[]
noncomputable def l6:List (Nat×aH):=[(108,jY),(231,dA)]
noncomputable def mM:aH:=⟨bJ,ck,fun x=>jz x.1 x.2.1 x.2.2.1 x.2.2.2.1 x.2.2.2.2.1 x.2.2.2.2.2.1⟩
theorem um:∀ (self:gd bJ→Option (de bJ ck)) (x:gd bJ),aZ ⟨Tryz.prog,(206,⟨bJ,ck,self⟩)::l6⟩ lG none Tryz.f206 ⟨bJ,ck,fun x=>c8 self x.1 x.2.1 x.2.2.1 x.2.2.2.1 x.2.2.2.2.1 x.2.2.2.2.2.1⟩ x=c8 self x.1 x.2.1 x.2.2.1 x.2.2.2.1 x.2.2.2.2.1 x.2.2.2.2.2.1:=by intro self x;kernel_rfl
theorem mT:aA Tryz.prog 206:=ay (fn:=Tryz.f206) (by kernel_rfl) rfl (by decide)
theorem vg:aJ Tryz.prog 206 mM:=KP (ps:=bJ) (rs:=ck) (m:=fun n x=>Am (fun self x=>c8 self x.1 x.2.1 x.2.2.1 x.2.2.2.1 x.2.2.2.2.1 x.2.2.2.2.2.1) n x) (GG (P:=Tryz.prog) (specs:=l6) (ps:=bJ) (rs:=ck) (.cons A9 Bt (.cons wu wK (.nil _))) (by kernel_rfl) (fun self x=>c8 self x.1 x.2.1 x.2.2.1 x.2.2.2.1 x.2.2.2.2.1 x.2.2.2.2.2.1) lG none (by kernel_rfl) mT um) (fun x=>lf x.1 x.2.1 x.2.2.1 x.2.2.2.1 x.2.2.2.2.1 x.2.2.2.2.2.1)
def mC:List (Nat×Ann):=[(2,⟨[(0,.rowR 10250000),(1,.val tI),(2,.val (.clo 108 .unit)),(6,.val tI),(7,.val tI),(8,.val tI)],[],[.rowC 10250000 113 .hnd,.arF aN],aX _⟩),
 (7,⟨[(0,.rowR 10250000),(1,.val tI),(2,.val (.clo 108 .unit)),(6,.val tI)],[],[.rowC 10250000 113 .hnd,.arF aN],aX _⟩),
 (9,⟨[(0,.rowR 10250000),(1,.val tI),(2,.val (.clo 108 .unit)),(6,.val tI),(7,.val tI),(8,.val tI)],[],[.rowC 10250000 113 .hnd,.arF aN],aX _⟩),
 (200002,⟨[(0,.rowR 10250000),(1,.val tI),(2,.val (.clo 108 .unit)),(6,.val tI),(7,.val tI)],[],[.rowC 10250000 113 .hnd,.arF aN],fun _=>0⟩),
 (200007,⟨[],[],[.rowC 10250000 113 .hnd,.arF aN],fun _=>0⟩),
 (200009,⟨[(0,.rowR 10250000),(1,.val tI),(2,.val (.clo 108 .unit)),(6,.val tI),(7,.val tI)],[],[.rowC 10250000 113 .hnd,.arF aN],fun _=>0⟩)]
noncomputable def dx:aH:=⟨[.mrow 113 .hnd,.val tI,.val (.clo 108 .unit),.arR aN],[],fun x=>oZ x.1 x.2.1 x.2.2.1 x.2.2.2.1⟩
noncomputable def ny:Cx:=⟨Tryz.prog,[(205,cm),(206,mM)]⟩
theorem vE:∀ x,aZ ny mC none Tryz.f162 dx x=dx.m x:=by intro x;kernel_rfl
theorem wo:aA Tryz.prog 162:=ay (fn:=Tryz.f162) (by kernel_rfl) rfl (by decide)
theorem wC:aJ Tryz.prog 162 dx:=aG (X:=ny) (.cons rJ rK (.cons vg mT (.nil _))) (by kernel_rfl) dx mC none (by kernel_rfl) (fun x y h=>(vE x).trans h)
def lZ:List (Nat×Ann):=[]
noncomputable def c9:aH:=⟨[.mrow 113 .hnd,.val (.clo 108 .unit),.arR aN],[],fun x=>oF x.1 x.2.1 x.2.2.1⟩
noncomputable def m7:Cx:=⟨Tryz.prog,[(162,dx)]⟩
theorem uv:∀ x,aZ m7 lZ none Tryz.f107 c9 x=c9.m x:=by intro x;kernel_rfl
theorem vM:aA Tryz.prog 107:=ay (fn:=Tryz.f107) (by kernel_rfl) rfl (by decide)
theorem vt:aJ Tryz.prog 107 c9:=aG (X:=m7) (.cons wC wo (.nil _)) (by kernel_rfl) c9 lZ none (by kernel_rfl) (fun x y h=>(uv x).trans h)
def zL:List (Nat×Ann):=[]
noncomputable def mQ:aH:=⟨[.val .hnd,.val tI,.arR aN],[.val .bool],fun x=>zB x.1 x.2.1 x.2.2.1⟩
noncomputable def Bz:Cx:=⟨Tryz.prog,[]⟩
theorem Ig:∀ x,aZ Bz zL none Tryz.f110 mQ x=mQ.m x:=by intro x;kernel_rfl
theorem JI:aA Tryz.prog 110:=ay (fn:=Tryz.f110) (by kernel_rfl) rfl (by decide)
theorem IU:aJ Tryz.prog 110 mQ:=aG (X:=Bz) (.nil _) (by kernel_rfl) mQ zL none (by kernel_rfl) (fun x y h=>(Ig x).trans h)
def vN:List (Nat×Ann):=[]
noncomputable def j4:aH:=⟨[.val .hnd,.arR aN],[.val tI],fun x=>BV x.1 x.2.1⟩
noncomputable def yq:Cx:=⟨Tryz.prog,[(160,nk)]⟩
theorem FC:∀ x,aZ yq vN none Tryz.f163 j4 x=j4.m x:=by intro x;kernel_rfl
theorem Gz:aA Tryz.prog 163:=ay (fn:=Tryz.f163) (by kernel_rfl) rfl (by decide)
theorem FX:aJ Tryz.prog 163 j4:=aG (X:=yq) (.cons B8 B0 (.nil _)) (by kernel_rfl) j4 vN none (by kernel_rfl) (fun x y h=>(FC x).trans h)
def BQ:List (Nat×Ann):=[]
noncomputable def lO:aH:=⟨[.val .hnd,.val tI,.val tI,.ar aN],[.val tI],fun x=>xF x.1 x.2.1 x.2.2.1 x.2.2.2.1⟩
noncomputable def Dw:Cx:=⟨Tryz.prog,[]⟩
theorem KA:∀ x,aZ Dw BQ none Tryz.f112 lO x=lO.m x:=by intro x;kernel_rfl
theorem Du:aA Tryz.prog 112:=ay (fn:=Tryz.f112) (by kernel_rfl) rfl (by decide)
theorem DF:aJ Tryz.prog 112 lO:=aG (X:=Dw) (.nil _) (by kernel_rfl) lO BQ none (by kernel_rfl) (fun x y h=>(KA x).trans h)
def yR:List (Nat×Ann):=[]
noncomputable def mO:aH:=⟨[.val .hnd,.val tI,.val tI,.ar aN],[.val tI],fun x=>Et x.1 x.2.1 x.2.2.1 x.2.2.2.1⟩
noncomputable def Be:Cx:=⟨Tryz.prog,[(112,lO),(163,j4)]⟩
theorem Ib:∀ x,aZ Be yR none Tryz.f111 mO x=mO.m x:=by intro x;kernel_rfl
theorem Jl:aA Tryz.prog 111:=ay (fn:=Tryz.f111) (by kernel_rfl) rfl (by decide)
theorem Jb:aJ Tryz.prog 111 mO:=aG (X:=Be) (.cons DF Du (.cons FX Gz (.nil _))) (by kernel_rfl) mO yR none (by kernel_rfl) (fun x y h=>(Ib x).trans h)
def Bk:List (Nat×Ann):=[(4,⟨[(1,.val (.slice cy)),(2,.val tI),(8,.own 113 .hnd),(9,.mapR 23),(24,.val (.slice fN)),(25,.val tI),(26,.val tI)],[],[.mapC 23 .str .hnd,.ar aN],aX _⟩),
 (14,⟨[(2,.val tI),(8,.own 113 .hnd),(9,.mapR 23),(13,.rowR 105744),(14,.own 3 tI),(49,.val (.slice cy)),(50,.val tI),(51,.val tI)],[],[.rowC 105744 113 .hnd,.mapC 23 .str .hnd,.ar aN],aX _⟩),
 (19,⟨[(2,.val tI),(8,.own 113 .hnd),(9,.mapR 23),(13,.rowR 105744),(14,.own 3 tI),(16,.ref 16 0),(17,.val tI),(49,.val (.slice cy)),(50,.val tI),(51,.val tI),(63,.val (.slice .str)),(64,.val tI),(65,.val tI)],[(16,O0)],[.rowC 105744 113 .hnd,.mapC 23 .str .hnd,.ar aN],aX _⟩),
 (26,⟨[(2,.val tI),(8,.own 113 .hnd),(9,.mapR 23),(13,.rowR 105744),(14,.own 3 tI),(16,.ref 16 0),(17,.val tI),(49,.val (.slice cy)),(50,.val tI),(51,.val tI),(86,.rowR 105744),(87,.val tI),(88,.val tI)],[(16,O0)],[.rowC 105744 113 .hnd,.mapC 23 .str .hnd,.ar aN],aX _⟩),
 (200004,⟨[(1,.val (.slice cy)),(2,.val tI),(8,.own 113 .hnd),(9,.mapR 23)],[],[.mapC 23 .str .hnd,.ar aN],fun _=>0⟩),
 (200014,⟨[(8,.own 113 .hnd),(14,.own 3 tI)],[],[.ar aN],fun _=>0⟩),
 (200019,⟨[(2,.val tI),(8,.own 113 .hnd),(9,.mapR 23),(13,.rowR 105744),(14,.own 3 tI),(16,.ref 16 0),(17,.val tI),(49,.val (.slice cy)),(50,.val tI),(51,.val tI)],[(16,O0)],[.rowC 105744 113 .hnd,.mapC 23 .str .hnd,.ar aN],fun _=>0⟩),
 (200026,⟨[(2,.val tI),(8,.own 113 .hnd),(9,.mapR 23),(13,.rowR 105744),(14,.own 3 tI),(17,.val tI),(49,.val (.slice cy)),(50,.val tI),(51,.val tI)],[],[.rowC 105744 113 .hnd,.mapC 23 .str .hnd,.ar aN],fun _=>0⟩)]
noncomputable def ov:aH:=⟨[.val (.slice fN),.val (.slice cy),.val tI,.ar aN],[.val (.slice .hnd),.val (.slice tI)],fun x=>HL x.1 x.2.1 x.2.2.1 x.2.2.2.1⟩
noncomputable def DR:Cx:=⟨Tryz.prog,[(105,sO),(106,gx),(107,c9),(110,mQ),(111,mO),(112,lO)]⟩
theorem KH:∀ x,aZ DR Bk none Tryz.f53 ov x=ov.m x:=by intro x;kernel_rfl
theorem LD:aA Tryz.prog 53:=ay (fn:=Tryz.f53) (by kernel_rfl) rfl (by decide)
theorem Ls:aJ Tryz.prog 53 ov:=aG (X:=DR) (.cons Oz OF (.cons B7 B3 (.cons vt vM (.cons IU JI (.cons Jb Jl (.cons DF Du (.nil _))))))) (by kernel_rfl) ov Bk none (by kernel_rfl) (fun x y h=>(KH x).trans h)
def Bm:List (Nat×Ann):=[(1,⟨[(0,.val (.slice (.int .u32)))],[],[],aX _⟩),
 (200001,⟨[(0,.val (.slice (.int .u32)))],[],[],fun _=>0⟩)]
noncomputable def jT:aH:=⟨[.val (.slice (.int .u32))],[.val (.slice (.int .u32))],fun x=>pG x.1⟩
noncomputable def DU:Cx:=⟨Tryz.prog,[]⟩
theorem KJ:∀ x,aZ DU Bm none Tryz.f190 jT x=jT.m x:=by intro x;kernel_rfl
theorem ya:aA Tryz.prog 190:=ay (fn:=Tryz.f190) (by kernel_rfl) rfl (by decide)
theorem x3:aJ Tryz.prog 190 jT:=aG (X:=DU) (.nil _) (by kernel_rfl) jT Bm none (by kernel_rfl) (fun x y h=>(KJ x).trans h)
def EN:List (Nat×Ann):=[]
noncomputable def iG:aH:=⟨[.val .bool,.val (.slice (.int .u32))],[.val aj],fun x=>iO x.1 x.2.1⟩
noncomputable def HI:Cx:=⟨Tryz.prog,[(190,jT)]⟩
theorem Nj:∀ x,aZ HI EN none Tryz.f132 iG x=iG.m x:=by intro x;kernel_rfl
theorem pF:aA Tryz.prog 132:=ay (fn:=Tryz.f132) (by kernel_rfl) rfl (by decide)
theorem pe:aJ Tryz.prog 132 iG:=aG (X:=HI) (.cons x3 ya (.nil _)) (by kernel_rfl) iG EN none (by kernel_rfl) (fun x y h=>(Nj x).trans h)
def HJ:List (Nat×Ann):=[(100003,⟨[(0,.val tI),(2,.ref 2 0),(3,.val (.int .u64))],[(2,wq)],[],fun _=>0⟩)]
noncomputable def fG:aH:=⟨[.val tI],[.val aj],fun x=>bA x.1⟩
noncomputable def KT:Cx:=⟨Tryz.prog,[(132,iG)]⟩
theorem Qp:∀ x,aZ KT HJ none Tryz.f127 fG x=fG.m x:=by intro x;kernel_rfl
theorem jI:aA Tryz.prog 127:=ay (fn:=Tryz.f127) (by kernel_rfl) rfl (by decide)
theorem jw:aJ Tryz.prog 127 fG:=aG (X:=KT) (.cons pe pF (.nil _)) (by kernel_rfl) fG HJ none (by kernel_rfl) (fun x y h=>(Qp x).trans h)
def FU:List (Nat×Ann):=[(6,⟨[(1,.val (.slice (.int .u32))),(5,.own 223 (.int .u32)),(6,.val (.int .u64)),(20,.val (.slice (.int .u32))),(21,.val tI),(22,.val tI)],[],[],aX _⟩),
 (100002,⟨[(0,.val (.slice (.int .u32))),(1,.val (.slice (.int .u32)))],[],[],fun _=>0⟩),
 (100010,⟨[(1,.val (.slice (.int .u32))),(5,.own 223 (.int .u32)),(6,.val (.int .u64)),(20,.val (.slice (.int .u32))),(21,.val tI),(22,.val tI)],[],[],fun _=>0⟩),
 (200006,⟨[(5,.own 223 (.int .u32)),(6,.val (.int .u64))],[],[],fun _=>0⟩)]
noncomputable def uX:aH:=⟨[.val (.slice (.int .u32)),.val (.slice (.int .u32))],[.row 223 (.int .u32)],fun x=>Bh x.1 x.2.1⟩
noncomputable def Jp:Cx:=⟨Tryz.prog,[]⟩
theorem On:∀ x,aZ Jp FU none Tryz.f133 uX x=uX.m x:=by intro x;kernel_rfl
theorem Py:aA Tryz.prog 133:=ay (fn:=Tryz.f133) (by kernel_rfl) rfl (by decide)
theorem PL:aJ Tryz.prog 133 uX:=aG (X:=Jp) (.nil _) (by kernel_rfl) uX FU none (by kernel_rfl) (fun x y h=>(On x).trans h)
def DO:List (Nat×Ann):=[(6,⟨[(1,.val (.slice (.int .u32))),(5,.own 223 (.int .u32)),(6,.val (.int .u64)),(20,.val (.slice (.int .u32))),(21,.val tI),(22,.val tI)],[],[],aX _⟩),
 (100002,⟨[(0,.val (.slice (.int .u32))),(1,.val (.slice (.int .u32)))],[],[],fun _=>0⟩),
 (100010,⟨[(1,.val (.slice (.int .u32))),(5,.own 223 (.int .u32)),(6,.val (.int .u64)),(20,.val (.slice (.int .u32))),(21,.val tI),(22,.val tI)],[],[],fun _=>0⟩),
 (200006,⟨[(5,.own 223 (.int .u32)),(6,.val (.int .u64))],[],[],fun _=>0⟩)]
noncomputable def qV:aH:=⟨[.val (.slice (.int .u32)),.val (.slice (.int .u32))],[.val (.slice (.int .u32))],fun x=>Fi x.1 x.2.1⟩
noncomputable def Gk:Cx:=⟨Tryz.prog,[]⟩
theorem MA:∀ x,aZ Gk DO none Tryz.f133 qV x=qV.m x:=by intro x;kernel_rfl
theorem NN:aA Tryz.prog 133:=ay (fn:=Tryz.f133) (by kernel_rfl) rfl (by decide)
theorem NG:aJ Tryz.prog 133 qV:=aG (X:=Gk) (.nil _) (by kernel_rfl) qV DO none (by kernel_rfl) (fun x y h=>(MA x).trans h)
def BB:List (Nat×Ann):=[(4,⟨[(0,.val (.slice (.int .u32))),(1,.val (.slice (.int .u32))),(5,.val tI)],[],[],aX _⟩),
 (200004,⟨[],[],[],fun _=>0⟩)]
noncomputable def lX:aH:=⟨[.val (.slice (.int .u32)),.val (.slice (.int .u32))],[.val tI],fun x=>s9 x.1 x.2.1⟩
noncomputable def D6:Cx:=⟨Tryz.prog,[]⟩
theorem Kl:∀ x,aZ D6 BB none Tryz.f134 lX x=lX.m x:=by intro x;kernel_rfl
theorem DE:aA Tryz.prog 134:=ay (fn:=Tryz.f134) (by kernel_rfl) rfl (by decide)
theorem C7:aJ Tryz.prog 134 lX:=aG (X:=D6) (.nil _) (by kernel_rfl) lX BB none (by kernel_rfl) (fun x y h=>(Kl x).trans h)
def EI:List (Nat×Ann):=[(4,⟨[(1,.val (.slice (.int .u32))),(5,.own 223 (.int .u32)),(6,.val (.int .u64)),(13,.val (.slice (.int .u32))),(14,.val tI),(15,.val tI)],[],[],aX _⟩),
 (100008,⟨[(1,.val (.slice (.int .u32))),(5,.own 223 (.int .u32)),(9,.val (.int .u64)),(13,.val (.slice (.int .u32))),(14,.val tI),(15,.val tI)],[],[],fun _=>0⟩),
 (200004,⟨[(5,.own 223 (.int .u32))],[],[],fun _=>0⟩)]
noncomputable def o7:aH:=⟨[.val (.slice (.int .u32)),.val (.slice (.int .u32))],[.val (.slice (.int .u32))],fun x=>vD x.1 x.2.1⟩
noncomputable def HC:Cx:=⟨Tryz.prog,[(190,jT)]⟩
theorem NL:∀ x,aZ HC EI none Tryz.f135 o7 x=o7.m x:=by intro x;kernel_rfl
theorem HY:aA Tryz.prog 135:=ay (fn:=Tryz.f135) (by kernel_rfl) rfl (by decide)
theorem H6:aJ Tryz.prog 135 o7:=aG (X:=HC) (.cons x3 ya (.nil _)) (by kernel_rfl) o7 EI none (by kernel_rfl) (fun x y h=>(NL x).trans h)
def Cq:List (Nat×Ann):=[(4,⟨[(2,.ref 2 0),(3,.ref 3 0),(4,.ref 4 0),(5,.ref 5 0),(6,.rowR 12),(7,.val (.slice (.int .u32))),(8,.val tI)],[(2,jS),(3,jS),(4,wq),(5,wq)],[.rowC 12 223 (.int .u32)],aX _⟩),
 (200004,⟨[(4,.ref 4 0),(5,.ref 5 0),(6,.rowR 12),(7,.val (.slice (.int .u32)))],[(4,wq),(5,wq)],[.rowC 12 223 (.int .u32)],fun _=>0⟩)]
noncomputable def kI:aH:=⟨[.val aj,.val aj],[.val aj,.val aj],fun x=>rj x.1 x.2.1⟩
noncomputable def Er:Cx:=⟨Tryz.prog,[(132,iG),(133,uX),(134,lX),(135,o7),(190,jT)]⟩
theorem Li:∀ x,aZ Er Cq none Tryz.f195 kI x=kI.m x:=by intro x;kernel_rfl
theorem yM:aA Tryz.prog 195:=ay (fn:=Tryz.f195) (by kernel_rfl) rfl (by decide)
theorem zD:aJ Tryz.prog 195 kI:=aG (X:=Er) (.cons pe pF (.cons PL Py (.cons C7 DE (.cons H6 HY (.cons x3 ya (.nil _)))))) (by kernel_rfl) kI Cq none (by kernel_rfl) (fun x y h=>(Li x).trans h)
def Aj:List (Nat×Ann):=[]
noncomputable def gE:aH:=⟨[.val aj],[.val tI],fun x=>aC x.1⟩
noncomputable def Cp:Cx:=⟨Tryz.prog,[]⟩
theorem I0:∀ x,aZ Cp Aj none Tryz.f158 gE x=gE.m x:=by intro x;kernel_rfl
theorem qN:aA Tryz.prog 158:=ay (fn:=Tryz.f158) (by kernel_rfl) rfl (by decide)
theorem qD:aJ Tryz.prog 158 gE:=aG (X:=Cp) (.nil _) (by kernel_rfl) gE Aj none (by kernel_rfl) (fun x y h=>(I0 x).trans h)
def yW:List (Nat×Ann):=[]
noncomputable def iu:aH:=⟨[.val aj],[.val aj],fun x=>aB x.1⟩
noncomputable def BJ:Cx:=⟨Tryz.prog,[(132,iG)]⟩
theorem Ir:∀ x,aZ BJ yW none Tryz.f159 iu x=iu.m x:=by intro x;kernel_rfl
theorem vn:aA Tryz.prog 159:=ay (fn:=Tryz.f159) (by kernel_rfl) rfl (by decide)
theorem ux:aJ Tryz.prog 159 iu:=aG (X:=BJ) (.cons pe pF (.nil _)) (by kernel_rfl) iu yW none (by kernel_rfl) (fun x y h=>(Ir x).trans h)
def Bw:List (Nat×Ann):=[(5,⟨[(1,.val tI),(2,.ref 2 0),(6,.val (.int .u64)),(14,.val (.slice (.int .u32))),(15,.val tI),(16,.val tI)],[(2,jS)],[],aX _⟩),
 (200005,⟨[(1,.val tI),(2,.ref 2 0),(6,.val (.int .u64))],[(2,jS)],[],fun _=>0⟩)]
noncomputable def iy:aH:=⟨[.val aj,.val tI],[.val tI,.val .bool],fun x=>nq x.1 x.2.1⟩
noncomputable def Dp:Cx:=⟨Tryz.prog,[]⟩
theorem KL:∀ x,aZ Dp Bw none Tryz.f137 iy x=iy.m x:=by intro x;kernel_rfl
theorem se:aA Tryz.prog 137:=ay (fn:=Tryz.f137) (by kernel_rfl) rfl (by decide)
theorem sG:aJ Tryz.prog 137 iy:=aG (X:=Dp) (.nil _) (by kernel_rfl) iy Bw none (by kernel_rfl) (fun x y h=>(KL x).trans h)
def Da:List (Nat×Ann):=[]
noncomputable def lQ:aH:=⟨[.val aj,.val tI],[.val aU,.val tI],fun x=>qm x.1 x.2.1⟩
noncomputable def GA:Cx:=⟨Tryz.prog,[(137,iy)]⟩
theorem MO:∀ x,aZ GA Da none Tryz.f86 lQ x=lQ.m x:=by intro x;kernel_rfl
theorem Av:aA Tryz.prog 86:=ay (fn:=Tryz.f86) (by kernel_rfl) rfl (by decide)
theorem AG:aJ Tryz.prog 86 lQ:=aG (X:=GA) (.cons sG se (.nil _)) (by kernel_rfl) lQ Da none (by kernel_rfl) (fun x y h=>(MO x).trans h)
def BE:List (Nat×Ann):=[(2,⟨[(1,.val tI),(2,.ref 2 0),(4,.ref 4 0),(6,.ref 6 0)],[(2,jS),(4,CN),(6,jS)],[],aX _⟩),
 (200002,⟨[(1,.val tI),(2,.ref 2 0),(4,.ref 4 0)],[(2,jS),(4,CN)],[],fun _=>0⟩)]
noncomputable def oC:aH:=⟨[.val aj,.val tI],[.val aU,.val tI],fun x=>HE x.1 x.2.1⟩
noncomputable def Df:Cx:=⟨Tryz.prog,[(86,lQ),(127,fG),(158,gE),(159,iu),(195,kI)]⟩
theorem Kv:∀ x,aZ Df BE none Tryz.f164 oC x=oC.m x:=by intro x;kernel_rfl
theorem LI:aA Tryz.prog 164:=ay (fn:=Tryz.f164) (by kernel_rfl) rfl (by decide)
theorem LK:aJ Tryz.prog 164 oC:=aG (X:=Df) (.cons AG Av (.cons jw jI (.cons qD qN (.cons ux vn (.cons zD yM (.nil _)))))) (by kernel_rfl) oC BE none (by kernel_rfl) (fun x y h=>(Kv x).trans h)
def Ep:List (Nat×Ann):=[]
noncomputable def s7:aH:=⟨[.val tI],[.val aU,.val tI],fun x=>Mx x.1⟩
noncomputable def HU:Cx:=⟨Tryz.prog,[(127,fG),(164,oC)]⟩
theorem Ns:∀ x,aZ HU Ep none Tryz.f113 s7 x=s7.m x:=by intro x;kernel_rfl
theorem Ow:aA Tryz.prog 113:=ay (fn:=Tryz.f113) (by kernel_rfl) rfl (by decide)
theorem OE:aJ Tryz.prog 113 s7:=aG (X:=HU) (.cons jw jI (.cons LK LI (.nil _))) (by kernel_rfl) s7 Ep none (by kernel_rfl) (fun x y h=>(Ns x).trans h)
def zX:List (Nat×Ann):=[]
noncomputable def nx:aH:=⟨[.val tI],[.val aU],fun x=>vw x.1⟩
noncomputable def Cj:Cx:=⟨Tryz.prog,[(113,s7)]⟩
theorem Jm:∀ x,aZ Cj zX none Tryz.f54 nx x=nx.m x:=by intro x;kernel_rfl
theorem Kp:aA Tryz.prog 54:=ay (fn:=Tryz.f54) (by kernel_rfl) rfl (by decide)
theorem Kx:aJ Tryz.prog 54 nx:=aG (X:=Cj) (.cons OE Ow (.nil _)) (by kernel_rfl) nx zX none (by kernel_rfl) (fun x y h=>(Jm x).trans h)
def H7:List (Nat×Ann):=[(7,⟨[(9,.val (.slice tI)),(10,.own 63 zI),(28,.val (.slice .hnd)),(29,.val tI),(30,.val tI)],[],[.ar aN],aX _⟩),
 (13,⟨[(10,.own 63 zI),(13,.own 33 aU),(58,.val (.slice tI)),(59,.val tI),(60,.val tI)],[],[.ar aN],aX _⟩),
 (200007,⟨[(9,.val (.slice tI)),(10,.own 63 zI)],[],[.ar aN],fun _=>0⟩),
 (200013,⟨[(10,.own 63 zI),(13,.own 33 aU)],[],[.ar aN],fun _=>0⟩)]
noncomputable def xg:aH:=⟨[.val (.slice fN),.val (.slice cy)],[.val (.slice zI),.val (.slice aU),.val tI],fun x=>Pn x.1 x.2.1⟩
noncomputable def KQ:Cx:=⟨Tryz.prog,[(52,nK),(53,ov),(54,nx)]⟩
theorem Qw:∀ x,aZ KQ H7 (some aN) Tryz.f22 xg x=xg.m x:=by intro x;kernel_rfl
theorem Q8:aA Tryz.prog 22:=ay (fn:=Tryz.f22) (by kernel_rfl) rfl (by decide)
theorem Rm:aJ Tryz.prog 22 xg:=aG (X:=KQ) (.cons Kg KE (.cons Ls LD (.cons Kx Kp (.nil _)))) (by kernel_rfl) xg H7 (some aN) (by kernel_rfl) (fun x y h=>(Qw x).trans h)
def FJ:List (Nat×Ann):=[]
noncomputable def vj:aH:=⟨[],[.val .bool],fun x=>ET ⟩
noncomputable def I8:Cx:=⟨Tryz.prog,[(22,xg)]⟩
theorem OO:∀ x,aZ I8 FJ none Tryz.f14 vj x=vj.m x:=by intro x;kernel_rfl
theorem PR:aA Tryz.prog 14:=ay (fn:=Tryz.f14) (by kernel_rfl) rfl (by decide)
theorem Pg:aJ Tryz.prog 14 vj:=aG (X:=I8) (.cons Rm Q8 (.nil _)) (by kernel_rfl) vj FJ none (by kernel_rfl) (fun x y h=>(OO x).trans h)
def rP:List (Nat×Ann):=[(4,⟨[(0,.val (.slice bO)),(1,.val (.slice bO)),(12,.val tI),(13,.val tI)],[],[],aX _⟩),
 (200004,⟨[],[],[],fun _=>0⟩)]
noncomputable def gM:aH:=⟨[.val (.slice bO),.val (.slice bO)],[.val .bool],fun x=>jx x.1 x.2.1⟩
noncomputable def tV:Cx:=⟨Tryz.prog,[]⟩
theorem Cc:∀ x,aZ tV rP none Tryz.f44 gM x=gM.m x:=by intro x;kernel_rfl
theorem CA:aA Tryz.prog 44:=ay (fn:=Tryz.f44) (by kernel_rfl) rfl (by decide)
theorem CR:aJ Tryz.prog 44 gM:=aG (X:=tV) (.nil _) (by kernel_rfl) gM rP none (by kernel_rfl) (fun x y h=>(Cc x).trans h)
def sN:List (Nat×Ann):=[(4,⟨[(0,.val (.slice cq)),(1,.val (.slice cq)),(12,.val tI),(13,.val tI)],[],[],aX _⟩),
 (200004,⟨[],[],[],fun _=>0⟩)]
noncomputable def iq:aH:=⟨[.val (.slice cq),.val (.slice cq)],[.val .bool],fun x=>nc x.1 x.2.1⟩
noncomputable def uH:Cx:=⟨Tryz.prog,[]⟩
theorem CM:∀ x,aZ uH sN none Tryz.f45 iq x=iq.m x:=by intro x;kernel_rfl
theorem Ea:aA Tryz.prog 45:=ay (fn:=Tryz.f45) (by kernel_rfl) rfl (by decide)
theorem DI:aJ Tryz.prog 45 iq:=aG (X:=uH) (.nil _) (by kernel_rfl) iq sN none (by kernel_rfl) (fun x y h=>(CM x).trans h)
def HN:List (Nat×Ann):=[(4,⟨[(2,.ref 2 0),(3,.ref 3 0),(58,.val (.slice cI)),(59,.val tI),(60,.val tI)],[(2,Fb),(3,Fb)],[],aX _⟩),
 (200004,⟨[(2,.ref 2 0),(3,.ref 3 0)],[(2,Fb),(3,Fb)],[],fun _=>0⟩)]
noncomputable def xu:aH:=⟨[.val bK,.val bK],[.val .bool],fun x=>Hy x.1 x.2.1⟩
noncomputable def KM:Cx:=⟨Tryz.prog,[(44,gM),(45,iq)]⟩
theorem PB:∀ x,aZ KM HN none Tryz.f17 xu x=xu.m x:=by intro x;kernel_rfl
theorem QJ:aA Tryz.prog 17:=ay (fn:=Tryz.f17) (by kernel_rfl) rfl (by decide)
theorem Rq:aJ Tryz.prog 17 xu:=aG (X:=KM) (.cons CR CA (.cons DI Ea (.nil _))) (by kernel_rfl) xu HN none (by kernel_rfl) (fun x y h=>(PB x).trans h)
def yT:List (Nat×Ann):=[(3,⟨[(2,.ref 2 0),(3,.ref 3 0),(4,.ref 4 0),(5,.rowR 18),(20,.val (.slice (.int .u32))),(21,.val tI),(22,.val tI)],[(2,jS),(3,jS),(4,wq)],[.rowC 18 223 (.int .u32)],aX _⟩),
 (7,⟨[(2,.ref 2 0),(3,.ref 3 0),(4,.ref 4 0),(5,.rowR 18),(6,.val tI),(7,.val (.int .u32)),(8,.val (.int .u64)),(20,.val (.slice (.int .u32))),(21,.val tI),(22,.val tI),(28,.val (.slice (.int .u32))),(29,.val tI),(30,.val tI)],[(2,jS),(3,jS),(4,wq)],[.rowC 18 223 (.int .u32)],aX _⟩),
 (200003,⟨[(2,.ref 2 0),(3,.ref 3 0),(4,.ref 4 0),(5,.rowR 18)],[(2,jS),(3,jS),(4,wq)],[.rowC 18 223 (.int .u32)],fun _=>0⟩),
 (200007,⟨[(2,.ref 2 0),(3,.ref 3 0),(4,.ref 4 0),(5,.rowR 18),(6,.val tI),(8,.val (.int .u64)),(20,.val (.slice (.int .u32))),(21,.val tI),(22,.val tI)],[(2,jS),(3,jS),(4,wq)],[.rowC 18 223 (.int .u32)],fun _=>0⟩)]
noncomputable def fm:aH:=⟨[.val aj,.val aj],[.val aj],fun x=>fj x.1 x.2.1⟩
noncomputable def Bi:Cx:=⟨Tryz.prog,[(132,iG)]⟩
theorem Ij:∀ x,aZ Bi yT none Tryz.f143 fm x=fm.m x:=by intro x;kernel_rfl
theorem mD:aA Tryz.prog 143:=ay (fn:=Tryz.f143) (by kernel_rfl) rfl (by decide)
theorem mw:aJ Tryz.prog 143 fm:=aG (X:=Bi) (.cons pe pF (.nil _)) (by kernel_rfl) fm yT none (by kernel_rfl) (fun x y h=>(Ij x).trans h)
def Dl:List (Nat×Ann):=[(3,⟨[(2,.ref 2 0),(3,.ref 3 0),(5,.val tI),(6,.val tI)],[(2,wq),(3,jS)],[],aX _⟩),
 (200003,⟨[(2,.ref 2 0),(3,.ref 3 0)],[(2,wq),(3,jS)],[],fun _=>0⟩)]
noncomputable def lW:aH:=⟨[.val tI],[.val aj],fun x=>nY x.1⟩
noncomputable def F6:Cx:=⟨Tryz.prog,[(127,fG),(143,fm)]⟩
theorem ME:∀ x,aZ F6 Dl none Tryz.f144 lW x=lW.m x:=by intro x;kernel_rfl
theorem AQ:aA Tryz.prog 144:=ay (fn:=Tryz.f144) (by kernel_rfl) rfl (by decide)
theorem Au:aJ Tryz.prog 144 lW:=aG (X:=F6) (.cons jw jI (.cons mw mD (.nil _))) (by kernel_rfl) lW Dl none (by kernel_rfl) (fun x y h=>(ME x).trans h)
def Ae:List (Nat×Ann):=[]
noncomputable def cx:aH:=⟨[.val aj,.val aj],[.val aj],fun x=>aV x.1 x.2.1⟩
noncomputable def Ck:Cx:=⟨Tryz.prog,[(132,iG),(133,qV),(134,lX),(135,o7)]⟩
theorem JG:∀ x,aZ Ck Ae none Tryz.f71 cx x=cx.m x:=by intro x;kernel_rfl
theorem fP:aA Tryz.prog 71:=ay (fn:=Tryz.f71) (by kernel_rfl) rfl (by decide)
theorem fQ:aJ Tryz.prog 71 cx:=aG (X:=Ck) (.cons pe pF (.cons NG NN (.cons C7 DE (.cons H6 HY (.nil _))))) (by kernel_rfl) cx Ae none (by kernel_rfl) (fun x y h=>(JG x).trans h)
def z8:List (Nat×Ann):=[]
noncomputable def nN:aH:=⟨[.val aj,.val aj],[.val aj],fun x=>vG x.1 x.2.1⟩
noncomputable def Cn:Cx:=⟨Tryz.prog,[(71,cx),(159,iu)]⟩
theorem II:∀ x,aZ Cn z8 none Tryz.f165 nN x=nN.m x:=by intro x;kernel_rfl
theorem KB:aA Tryz.prog 165:=ay (fn:=Tryz.f165) (by kernel_rfl) rfl (by decide)
theorem KD:aJ Tryz.prog 165 nN:=aG (X:=Cn) (.cons fQ fP (.cons ux vn (.nil _))) (by kernel_rfl) nN z8 none (by kernel_rfl) (fun x y h=>(II x).trans h)
def xe:List (Nat×Ann):=[]
noncomputable def iM:aH:=⟨[.val aj,.val aj],[.val tI],fun x=>nv x.1 x.2.1⟩
noncomputable def zM:Cx:=⟨Tryz.prog,[(158,gE),(165,nN)]⟩
theorem FY:∀ x,aZ zM xe none Tryz.f116 iM x=iM.m x:=by intro x;kernel_rfl
theorem zG:aA Tryz.prog 116:=ay (fn:=Tryz.f116) (by kernel_rfl) rfl (by decide)
theorem zl:aJ Tryz.prog 116 iM:=aG (X:=zM) (.cons qD qN (.cons KD KB (.nil _))) (by kernel_rfl) iM xe none (by kernel_rfl) (fun x y h=>(FY x).trans h)
def Bq:List (Nat×Ann):=[]
noncomputable def oK:aH:=⟨[.val aj],[.val .bool],fun x=>fR x.1⟩
noncomputable def DG:Cx:=⟨Tryz.prog,[]⟩
theorem Ku:∀ x,aZ DG Bq none Tryz.f196 oK x=oK.m x:=by intro x;kernel_rfl
theorem Lo:aA Tryz.prog 196:=ay (fn:=Tryz.f196) (by kernel_rfl) rfl (by decide)
theorem Lb:aJ Tryz.prog 196 oK:=aG (X:=DG) (.nil _) (by kernel_rfl) oK Bq none (by kernel_rfl) (fun x y h=>(Ku x).trans h)
def zW:List (Nat×Ann):=[]
noncomputable def kP:aH:=⟨[.val aj,.val aj,.val tI],[.val aj],fun x=>rq x.1 x.2.1 x.2.2.1⟩
noncomputable def Cu:Cx:=⟨Tryz.prog,[(71,cx),(116,iM),(127,fG),(158,gE),(159,iu),(195,kI),(196,oK)]⟩
theorem IS:∀ x,aZ Cu zW none Tryz.f145 kP x=kP.m x:=by intro x;kernel_rfl
theorem Cf:aA Tryz.prog 145:=ay (fn:=Tryz.f145) (by kernel_rfl) rfl (by decide)
theorem Cr:aJ Tryz.prog 145 kP:=aG (X:=Cu) (.cons fQ fP (.cons zl zG (.cons jw jI (.cons qD qN (.cons ux vn (.cons zD yM (.cons Lb Lo (.nil _)))))))) (by kernel_rfl) kP zW none (by kernel_rfl) (fun x y h=>(IS x).trans h)
def Gl:List (Nat×Ann):=[]
noncomputable def ij:aH:=⟨[.val aj],[.val .bool],fun x=>ji x.1⟩
noncomputable def Jc:Cx:=⟨Tryz.prog,[(137,iy)]⟩
theorem OD:∀ x,aZ Jc Gl none Tryz.f74 ij x=ij.m x:=by intro x;kernel_rfl
theorem om:aA Tryz.prog 74:=ay (fn:=Tryz.f74) (by kernel_rfl) rfl (by decide)
theorem oD:aJ Tryz.prog 74 ij:=aG (X:=Jc) (.cons sG se (.nil _)) (by kernel_rfl) ij Gl none (by kernel_rfl) (fun x y h=>(OD x).trans h)
def Eu:List (Nat×Ann):=[]
noncomputable def sX:aH:=⟨[.val bK,.val cI],[.val aj,.val .bool],fun x=>CS x.1 x.2.1⟩
noncomputable def HH:Cx:=⟨Tryz.prog,[(74,ij),(127,fG),(143,fm),(144,lW),(145,kP)]⟩
theorem Ni:∀ x,aZ HH Eu none Tryz.f87 sX x=sX.m x:=by intro x;kernel_rfl
theorem OK:aA Tryz.prog 87:=ay (fn:=Tryz.f87) (by kernel_rfl) rfl (by decide)
theorem OJ:aJ Tryz.prog 87 sX:=aG (X:=HH) (.cons oD om (.cons jw jI (.cons mw mD (.cons Au AQ (.cons Cr Cf (.nil _)))))) (by kernel_rfl) sX Eu none (by kernel_rfl) (fun x y h=>(Ni x).trans h)
def BR:List (Nat×Ann):=[]
noncomputable def lV:aH:=⟨[.val aU,.val tI],[.val aj],fun x=>pn x.1 x.2.1⟩
noncomputable def Dj:Cx:=⟨Tryz.prog,[(127,fG),(143,fm),(144,lW)]⟩
theorem Kn:∀ x,aZ Dj BR none Tryz.f88 lV x=lV.m x:=by intro x;kernel_rfl
theorem DT:aA Tryz.prog 88:=ay (fn:=Tryz.f88) (by kernel_rfl) rfl (by decide)
theorem DD:aJ Tryz.prog 88 lV:=aG (X:=Dj) (.cons jw jI (.cons mw mD (.cons Au AQ (.nil _)))) (by kernel_rfl) lV BR none (by kernel_rfl) (fun x y h=>(Kn x).trans h)
def F4:List (Nat×Ann):=[]
noncomputable def n7:aH:=⟨[.val bK,.val aj,.val aU],[.val aj],fun x=>pX x.1 x.2.1 x.2.2.1⟩
noncomputable def IM:Cx:=⟨Tryz.prog,[(127,fG),(143,fm),(144,lW),(145,kP)]⟩
theorem OP:∀ x,aZ IM F4 none Tryz.f89 n7 x=n7.m x:=by intro x;kernel_rfl
theorem C5:aA Tryz.prog 89:=ay (fn:=Tryz.f89) (by kernel_rfl) rfl (by decide)
theorem C8:aJ Tryz.prog 89 n7:=aG (X:=IM) (.cons jw jI (.cons mw mD (.cons Au AQ (.cons Cr Cf (.nil _))))) (by kernel_rfl) n7 F4 none (by kernel_rfl) (fun x y h=>(OP x).trans h)
def HG:List (Nat×Ann):=[(4,⟨[(2,.ref 2 0),(4,.ref 4 0),(6,.ref 6 0),(7,.val .bool),(8,.ref 8 0),(20,.val (.slice bO)),(21,.val tI),(22,.val tI)],[(2,Fb),(4,wq),(6,jS),(8,jS)],[],aX _⟩),
 (100008,⟨[(2,.ref 2 0),(4,.ref 4 0),(6,.ref 6 0),(7,.val .bool),(8,.ref 8 0),(11,.ref 11 0),(20,.val (.slice bO)),(21,.val tI),(22,.val tI)],[(2,Fb),(4,wq),(6,jS),(8,jS),(11,jS)],[],fun _=>0⟩),
 (200004,⟨[(4,.ref 4 0),(7,.val .bool),(8,.ref 8 0)],[(4,wq),(8,jS)],[],fun _=>0⟩)]
noncomputable def w9:aH:=⟨[.val bK,.val cI],[.val aj,.val .bool],fun x=>Ho x.1 x.2.1⟩
noncomputable def K3:Cx:=⟨Tryz.prog,[(71,cx),(74,ij),(87,sX),(88,lV),(89,n7)]⟩
theorem Pf:∀ x,aZ K3 HG none Tryz.f36 w9 x=w9.m x:=by intro x;kernel_rfl
theorem QN:aA Tryz.prog 36:=ay (fn:=Tryz.f36) (by kernel_rfl) rfl (by decide)
theorem Q0:aJ Tryz.prog 36 w9:=aG (X:=K3) (.cons fQ fP (.cons oD om (.cons OJ OK (.cons DD DT (.cons C8 C5 (.nil _)))))) (by kernel_rfl) w9 HG none (by kernel_rfl) (fun x y h=>(Pf x).trans h)
def ua:List (Nat×Ann):=[]
noncomputable def iR:aH:=⟨[.val aj],[.val .bool],fun x=>sE x.1⟩
noncomputable def vR:Cx:=⟨Tryz.prog,[(74,ij)]⟩
theorem D2:∀ x,aZ vR ua none Tryz.f125 iR x=iR.m x:=by intro x;kernel_rfl
theorem Ef:aA Tryz.prog 125:=ay (fn:=Tryz.f125) (by kernel_rfl) rfl (by decide)
theorem Ej:aJ Tryz.prog 125 iR:=aG (X:=vR) (.cons oD om (.nil _)) (by kernel_rfl) iR ua none (by kernel_rfl) (fun x y h=>(D2 x).trans h)
def vO:List (Nat×Ann):=[]
noncomputable def jZ:aH:=⟨[.val aj],[.val .bool],fun x=>uO x.1⟩
noncomputable def yg:Cx:=⟨Tryz.prog,[(74,ij)]⟩
theorem E4:∀ x,aZ yg vO none Tryz.f130 jZ x=jZ.m x:=by intro x;kernel_rfl
theorem Gx:aA Tryz.prog 130:=ay (fn:=Tryz.f130) (by kernel_rfl) rfl (by decide)
theorem Gn:aJ Tryz.prog 130 jZ:=aG (X:=yg) (.cons oD om (.nil _)) (by kernel_rfl) jZ vO none (by kernel_rfl) (fun x y h=>(E4 x).trans h)
def yB:List (Nat×Ann):=[]
noncomputable def lC:aH:=⟨[.val aj],[.val .bool],fun x=>x9 x.1⟩
noncomputable def Aa:Cx:=⟨Tryz.prog,[(74,ij)]⟩
theorem GZ:∀ x,aZ Aa yB none Tryz.f131 lC x=lC.m x:=by intro x;kernel_rfl
theorem Ih:aA Tryz.prog 131:=ay (fn:=Tryz.f131) (by kernel_rfl) rfl (by decide)
theorem Is:aJ Tryz.prog 131 lC:=aG (X:=Aa) (.cons oD om (.nil _)) (by kernel_rfl) lC yB none (by kernel_rfl) (fun x y h=>(GZ x).trans h)
def uy:List (Nat×Ann):=[]
noncomputable def jJ:aH:=⟨[.val aj],[.val .bool],fun x=>tw x.1⟩
noncomputable def xy:Cx:=⟨Tryz.prog,[(74,ij)]⟩
theorem Ec:∀ x,aZ xy uy none Tryz.f73 jJ x=jJ.m x:=by intro x;kernel_rfl
theorem Fe:aA Tryz.prog 73:=ay (fn:=Tryz.f73) (by kernel_rfl) rfl (by decide)
theorem Fx:aJ Tryz.prog 73 jJ:=aG (X:=xy) (.cons oD om (.nil _)) (by kernel_rfl) jJ uy none (by kernel_rfl) (fun x y h=>(Ec x).trans h)
def oT:List (Nat×Ann):=[(2,⟨[(0,.val (.slice aj)),(1,.val (.clo 125 .unit)),(7,.val tI),(8,.val tI)],[],[],aX _⟩),
 (200002,⟨[],[],[],fun _=>0⟩)]
noncomputable def fJ:aH:=⟨[.val (.slice aj),.val (.clo 125 .unit)],[.val tI],fun x=>ng x.1 x.2.1⟩
noncomputable def qw:Cx:=⟨Tryz.prog,[(125,iR)]⟩
theorem ze:∀ x,aZ qw oT none Tryz.f136 fJ x=fJ.m x:=by intro x;kernel_rfl
theorem zR:aA Tryz.prog 136:=ay (fn:=Tryz.f136) (by kernel_rfl) rfl (by decide)
theorem zP:aJ Tryz.prog 136 fJ:=aG (X:=qw) (.cons Ej Ef (.nil _)) (by kernel_rfl) fJ oT none (by kernel_rfl) (fun x y h=>(ze x).trans h)
def nZ:List (Nat×Ann):=[(2,⟨[(0,.val (.slice aj)),(1,.val (.clo 130 .unit)),(7,.val tI),(8,.val tI)],[],[],aX _⟩),
 (200002,⟨[],[],[],fun _=>0⟩)]
noncomputable def eM:aH:=⟨[.val (.slice aj),.val (.clo 130 .unit)],[.val tI],fun x=>lK x.1 x.2.1⟩
noncomputable def oW:Cx:=⟨Tryz.prog,[(130,jZ)]⟩
theorem ye:∀ x,aZ oW nZ none Tryz.f136 eM x=eM.m x:=by intro x;kernel_rfl
theorem yE:aA Tryz.prog 136:=ay (fn:=Tryz.f136) (by kernel_rfl) rfl (by decide)
theorem yI:aJ Tryz.prog 136 eM:=aG (X:=oW) (.cons Gn Gx (.nil _)) (by kernel_rfl) eM nZ none (by kernel_rfl) (fun x y h=>(ye x).trans h)
def nX:List (Nat×Ann):=[(2,⟨[(0,.val (.slice aj)),(1,.val (.clo 131 .unit)),(7,.val tI),(8,.val tI)],[],[],aX _⟩),
 (200002,⟨[],[],[],fun _=>0⟩)]
noncomputable def eG:aH:=⟨[.val (.slice aj),.val (.clo 131 .unit)],[.val tI],fun x=>lJ x.1 x.2.1⟩
noncomputable def oU:Cx:=⟨Tryz.prog,[(131,lC)]⟩
theorem xS:∀ x,aZ oU nX none Tryz.f136 eG x=eG.m x:=by intro x;kernel_rfl
theorem yH:aA Tryz.prog 136:=ay (fn:=Tryz.f136) (by kernel_rfl) rfl (by decide)
theorem yJ:aJ Tryz.prog 136 eG:=aG (X:=oU) (.cons Is Ih (.nil _)) (by kernel_rfl) eG nX none (by kernel_rfl) (fun x y h=>(xS x).trans h)
def nU:List (Nat×Ann):=[(2,⟨[(0,.val (.slice aj)),(1,.val (.clo 73 .unit)),(7,.val tI),(8,.val tI)],[],[],aX _⟩),
 (200002,⟨[],[],[],fun _=>0⟩)]
noncomputable def eK:aH:=⟨[.val (.slice aj),.val (.clo 73 .unit)],[.val tI],fun x=>lU x.1 x.2.1⟩
noncomputable def oX:Cx:=⟨Tryz.prog,[(73,jJ)]⟩
theorem xR:∀ x,aZ oX nU none Tryz.f136 eK x=eK.m x:=by intro x;kernel_rfl
theorem yL:aA Tryz.prog 136:=ay (fn:=Tryz.f136) (by kernel_rfl) rfl (by decide)
theorem yK:aJ Tryz.prog 136 eK:=aG (X:=oX) (.cons Fx Fe (.nil _)) (by kernel_rfl) eK nU none (by kernel_rfl) (fun x y h=>(xR x).trans h)
def nF:List (Nat×Ann):=[]
noncomputable def dX:aH:=⟨[.val (.slice aj),.val (.clo 125 .unit)],[.val .bool],fun x=>ia x.1 x.2.1⟩
noncomputable def oL:Cx:=⟨Tryz.prog,[(136,fJ)]⟩
theorem xk:∀ x,aZ oL nF none Tryz.f72 dX x=dX.m x:=by intro x;kernel_rfl
theorem x4:aA Tryz.prog 72:=ay (fn:=Tryz.f72) (by kernel_rfl) rfl (by decide)
theorem x8:aJ Tryz.prog 72 dX:=aG (X:=oL) (.cons zP zR (.nil _)) (by kernel_rfl) dX nF none (by kernel_rfl) (fun x y h=>(xk x).trans h)
def mU:List (Nat×Ann):=[]
noncomputable def di:aH:=⟨[.val (.slice aj),.val (.clo 130 .unit)],[.val .bool],fun x=>bL x.1 x.2.1⟩
noncomputable def nB:Cx:=⟨Tryz.prog,[(136,eM)]⟩
theorem vF:∀ x,aZ nB mU none Tryz.f72 di x=di.m x:=by intro x;kernel_rfl
theorem vW:aA Tryz.prog 72:=ay (fn:=Tryz.f72) (by kernel_rfl) rfl (by decide)
theorem vZ:aJ Tryz.prog 72 di:=aG (X:=nB) (.cons yI yE (.nil _)) (by kernel_rfl) di mU none (by kernel_rfl) (fun x y h=>(vF x).trans h)
def mF:List (Nat×Ann):=[]
noncomputable def dB:aH:=⟨[.val (.slice aj),.val (.clo 131 .unit)],[.val .bool],fun x=>gz x.1 x.2.1⟩
noncomputable def nO:Cx:=⟨Tryz.prog,[(136,eG)]⟩
theorem vC:∀ x,aZ nO mF none Tryz.f72 dB x=dB.m x:=by intro x;kernel_rfl
theorem wj:aA Tryz.prog 72:=ay (fn:=Tryz.f72) (by kernel_rfl) rfl (by decide)
theorem wh:aJ Tryz.prog 72 dB:=aG (X:=nO) (.cons yJ yH (.nil _)) (by kernel_rfl) dB mF none (by kernel_rfl) (fun x y h=>(vC x).trans h)
def mH:List (Nat×Ann):=[]
noncomputable def dz:aH:=⟨[.val (.slice aj),.val (.clo 73 .unit)],[.val .bool],fun x=>gy x.1 x.2.1⟩
noncomputable def nD:Cx:=⟨Tryz.prog,[(136,eK)]⟩
theorem vB:∀ x,aZ nD mH none Tryz.f72 dz x=dz.m x:=by intro x;kernel_rfl
theorem wH:aA Tryz.prog 72:=ay (fn:=Tryz.f72) (by kernel_rfl) rfl (by decide)
theorem wN:aJ Tryz.prog 72 dz:=aG (X:=nD) (.cons yK yL (.nil _)) (by kernel_rfl) dz mH none (by kernel_rfl) (fun x y h=>(vB x).trans h)
def rQ:List (Nat×Ann):=[]
noncomputable def gK:aH:=⟨[.val (.slice aj)],[.row 135 aj],fun x=>mb x.1⟩
noncomputable def tZ:Cx:=⟨Tryz.prog,[]⟩
theorem Ca:∀ x,aZ tZ rQ none Tryz.f126 gK x=gK.m x:=by intro x;kernel_rfl
theorem CC:aA Tryz.prog 126:=ay (fn:=Tryz.f126) (by kernel_rfl) rfl (by decide)
theorem Cz:aJ Tryz.prog 126 gK:=aG (X:=tZ) (.nil _) (by kernel_rfl) gK rQ none (by kernel_rfl) (fun x y h=>(Ca x).trans h)
def vP:List (Nat×Ann):=[(4,⟨[(0,.ref 2000 0),(30,.val (.slice cI)),(31,.val tI),(32,.val tI)],[(2000,Vy)],[.rowC 19 135 aj,.rowC 21 4 .bool,.rowC 10250004 135 aj,.rowC 10250006 135 aj,.rowC 10250008 135 aj],aX _⟩),
 (200004,⟨[(0,.ref 2000 0)],[(2000,Vy)],[.rowC 19 135 aj,.rowC 21 4 .bool,.rowC 10250004 135 aj,.rowC 10250006 135 aj,.rowC 10250008 135 aj],fun _=>0⟩)]
noncomputable def j6:aH:=⟨[.box [.val bK,.row 135 aj,.val (.slice aj),.row 135 aj,.row 186 cF,.row 135 aj,.row 4 .bool,.row 135 aj]],[.val tI],fun x=>mL x.1⟩
noncomputable def yh:Cx:=⟨Tryz.prog,[(36,w9),(71,cx),(72,dX),(124,lR),(126,gK)]⟩
theorem Fp:∀ x,aZ yh vP none Tryz.f67 j6 x=j6.m x:=by intro x;kernel_rfl
theorem Gr:aA Tryz.prog 67:=ay (fn:=Tryz.f67) (by kernel_rfl) rfl (by decide)
theorem Gq:aJ Tryz.prog 67 j6:=aG (X:=yh) (.cons Q0 QN (.cons fQ fP (.cons x8 x4 (.cons AR AO (.cons Cz CC (.nil _)))))) (by kernel_rfl) j6 vP none (by kernel_rfl) (fun x y h=>(Fp x).trans h)
def yy:List (Nat×Ann):=[]
noncomputable def jt:aH:=⟨[.box [.val bK,.row 135 aj,.val (.slice aj),.row 135 aj,.row 186 cF,.row 135 aj,.row 4 .bool,.row 135 aj],.val tI,.val aj],[],fun x=>fH x.1 x.2.1 x.2.2.1⟩
noncomputable def Ab:Cx:=⟨Tryz.prog,[(71,cx)]⟩
theorem GL:∀ x,aZ Ab yy none Tryz.f128 jt x=jt.m x:=by intro x;kernel_rfl
theorem z6:aA Tryz.prog 128:=ay (fn:=Tryz.f128) (by kernel_rfl) rfl (by decide)
theorem z1:aJ Tryz.prog 128 jt:=aG (X:=Ab) (.cons fQ fP (.nil _)) (by kernel_rfl) jt yy none (by kernel_rfl) (fun x y h=>(GL x).trans h)
def BU:List (Nat×Ann):=[]
noncomputable def oE:aH:=⟨[.val aj],[.val aj],fun x=>xJ x.1⟩
noncomputable def DQ:Cx:=⟨Tryz.prog,[(132,iG)]⟩
theorem KF:∀ x,aZ DQ BU none Tryz.f186 oE x=oE.m x:=by intro x;kernel_rfl
theorem La:aA Tryz.prog 186:=ay (fn:=Tryz.f186) (by kernel_rfl) rfl (by decide)
theorem Lt:aJ Tryz.prog 186 oE:=aG (X:=DQ) (.cons pe pF (.nil _)) (by kernel_rfl) oE BU none (by kernel_rfl) (fun x y h=>(KF x).trans h)
def vk:List (Nat×Ann):=[]
noncomputable def jA:aH:=⟨[.val tI],[.val .bool],fun x=>tG x.1⟩
noncomputable def xm:Cx:=⟨Tryz.prog,[]⟩
theorem Eb:∀ x,aZ xm vk none Tryz.f188 jA x=jA.m x:=by intro x;kernel_rfl
theorem Fj:aA Tryz.prog 188:=ay (fn:=Tryz.f188) (by kernel_rfl) rfl (by decide)
theorem Fw:aJ Tryz.prog 188 jA:=aG (X:=xm) (.nil _) (by kernel_rfl) jA vk none (by kernel_rfl) (fun x y h=>(Eb x).trans h)
def tL:List (Nat×Ann):=[(2,⟨[(0,.val (.slice tI)),(1,.val (.clo 188 .unit)),(7,.val tI),(8,.val tI)],[],[],aX _⟩),
 (200002,⟨[],[],[],fun _=>0⟩)]
noncomputable def iQ:aH:=⟨[.val (.slice tI),.val (.clo 188 .unit)],[.val tI],fun x=>rU x.1 x.2.1⟩
noncomputable def vS:Cx:=⟨Tryz.prog,[(188,jA)]⟩
theorem Ds:∀ x,aZ vS tL none Tryz.f217 iQ x=iQ.m x:=by intro x;kernel_rfl
theorem Ed:aA Tryz.prog 217:=ay (fn:=Tryz.f217) (by kernel_rfl) rfl (by decide)
theorem Ei:aJ Tryz.prog 217 iQ:=aG (X:=vS) (.cons Fw Fj (.nil _)) (by kernel_rfl) iQ tL none (by kernel_rfl) (fun x y h=>(Ds x).trans h)
def ri:List (Nat×Ann):=[]
noncomputable def gw:aH:=⟨[.val (.slice tI),.val (.clo 188 .unit)],[.val .bool],fun x=>iU x.1 x.2.1⟩
noncomputable def sJ:Cx:=⟨Tryz.prog,[(217,iQ)]⟩
theorem Bp:∀ x,aZ sJ ri none Tryz.f187 gw x=gw.m x:=by intro x;kernel_rfl
theorem BZ:aA Tryz.prog 187:=ay (fn:=Tryz.f187) (by kernel_rfl) rfl (by decide)
theorem B6:aJ Tryz.prog 187 gw:=aG (X:=sJ) (.cons Ei Ed (.nil _)) (by kernel_rfl) gw ri none (by kernel_rfl) (fun x y h=>(Bp x).trans h)
def uL:List (Nat×Ann):=[(7,⟨[(3,.val tI),(12,.val (.slice tI)),(13,.val tI),(14,.val tI)],[],[],aX _⟩),
 (200007,⟨[(3,.val tI)],[],[],fun _=>0⟩)]
noncomputable def jy:aH:=⟨[.val (.slice tI)],[.val tI],fun x=>oR x.1⟩
noncomputable def xj:Cx:=⟨Tryz.prog,[(39,dI)]⟩
theorem Eg:∀ x,aZ xj uL none Tryz.f218 jy x=jy.m x:=by intro x;kernel_rfl
theorem E7:aA Tryz.prog 218:=ay (fn:=Tryz.f218) (by kernel_rfl) rfl (by decide)
theorem Fk:aJ Tryz.prog 218 jy:=aG (X:=xj) (.cons iN iJ (.nil _)) (by kernel_rfl) jy uL none (by kernel_rfl) (fun x y h=>(Eg x).trans h)
def yS:List (Nat×Ann):=[]
noncomputable def j9:aH:=⟨[.val aS,.val aS],[.val tI],fun x=>kF x.1 x.2.1⟩
noncomputable def Bb:Cx:=⟨Tryz.prog,[(116,iM)]⟩
theorem Ia:∀ x,aZ Bb yS none Tryz.f220 j9 x=j9.m x:=by intro x;kernel_rfl
theorem BF:aA Tryz.prog 220:=ay (fn:=Tryz.f220) (by kernel_rfl) rfl (by decide)
theorem Bs:aJ Tryz.prog 220 j9:=aG (X:=Bb) (.cons zl zG (.nil _)) (by kernel_rfl) j9 yS none (by kernel_rfl) (fun x y h=>(Ia x).trans h)
def jj:List (Nat×Ann):=[(1,⟨[(0,.rowR 10250000),(1,.val tI),(2,.val tI),(3,.val (.clo 220 .unit)),(8,.val tI)],[],[.rowC 10250000 261 aS],aX _⟩),
 (4,⟨[(0,.rowR 10250000),(1,.val tI),(2,.val tI),(3,.val (.clo 220 .unit)),(8,.val tI),(9,.val tI)],[],[.rowC 10250000 261 aS],aX _⟩),
 (200001,⟨[],[],[.rowC 10250000 261 aS],fun _=>0⟩),
 (200004,⟨[(0,.rowR 10250000),(1,.val tI),(2,.val tI),(3,.val (.clo 220 .unit)),(8,.val tI)],[],[.rowC 10250000 261 aS],fun _=>0⟩)]
noncomputable def bZ:aH:=⟨[.mrow 261 aS,.val tI,.val tI,.val (.clo 220 .unit)],[],fun x=>cu x.1 x.2.1 x.2.2.1 x.2.2.2.1⟩
noncomputable def jP:Cx:=⟨Tryz.prog,[(220,j9)]⟩
theorem qa:∀ x,aZ jP jj none Tryz.f241 bZ x=bZ.m x:=by intro x;kernel_rfl
theorem qz:aA Tryz.prog 241:=ay (fn:=Tryz.f241) (by kernel_rfl) rfl (by decide)
theorem qx:aJ Tryz.prog 241 bZ:=aG (X:=jP) (.cons Bs BF (.nil _)) (by kernel_rfl) bZ jj none (by kernel_rfl) (fun x y h=>(qa x).trans h)
def kC:List (Nat×Ann):=[(1,⟨[(0,.rowR 10250000),(1,.val tI),(2,.val tI),(3,.val tI),(10,.val tI)],[],[.rowC 10250000 261 aS],aX _⟩),
 (200001,⟨[],[],[.rowC 10250000 261 aS],fun _=>0⟩)]
noncomputable def cA:aH:=⟨[.mrow 261 aS,.val tI,.val tI,.val tI,.val (.clo 220 .unit)],[],fun x=>b7 x.1 x.2.1 x.2.2.1 x.2.2.2.1 x.2.2.2.2.1⟩
noncomputable def kX:Cx:=⟨Tryz.prog,[]⟩
theorem sD:∀ x,aZ kX kC none Tryz.f244 cA x=cA.m x:=by intro x;kernel_rfl
theorem sW:aA Tryz.prog 244:=ay (fn:=Tryz.f244) (by kernel_rfl) rfl (by decide)
theorem sU:aJ Tryz.prog 244 cA:=aG (X:=kX) (.nil _) (by kernel_rfl) cA kC none (by kernel_rfl) (fun x y h=>(sD x).trans h)
def lI:List (Nat×Ann):=[(2,⟨[(0,.rowR 10250000),(2,.val tI),(4,.val (.clo 220 .unit)),(10,.val tI),(11,.val tI)],[],[.rowC 10250000 261 aS],aX _⟩),
 (200002,⟨[(0,.rowR 10250000),(2,.val tI),(4,.val (.clo 220 .unit)),(10,.val tI)],[],[.rowC 10250000 261 aS],fun _=>0⟩)]
noncomputable def cP:aH:=⟨[.mrow 261 aS,.val tI,.val tI,.val tI,.val (.clo 220 .unit)],[],fun x=>gb x.1 x.2.1 x.2.2.1 x.2.2.2.1 x.2.2.2.2.1⟩
noncomputable def mK:Cx:=⟨Tryz.prog,[(244,cA)]⟩
theorem uu:∀ x,aZ mK lI none Tryz.f243 cP x=cP.m x:=by intro x;kernel_rfl
theorem vp:aA Tryz.prog 243:=ay (fn:=Tryz.f243) (by kernel_rfl) rfl (by decide)
theorem uT:aJ Tryz.prog 243 cP:=aG (X:=mK) (.cons sU sW (.nil _)) (by kernel_rfl) cP lI none (by kernel_rfl) (fun x y h=>(uu x).trans h)
def kM:List (Nat×Ann):=[(3,⟨[(0,.rowR 10250000),(1,.val tI),(4,.val (.clo 220 .unit)),(10,.val tI),(11,.val tI)],[],[.rowC 10250000 261 aS],aX _⟩),
 (9,⟨[(0,.rowR 10250000),(10,.val tI),(13,.val tI)],[],[.rowC 10250000 261 aS],aX _⟩),
 (15,⟨[(0,.rowR 10250000),(2,.val tI),(4,.val (.clo 220 .unit)),(14,.val tI),(15,.val tI)],[],[.rowC 10250000 261 aS],aX _⟩),
 (21,⟨[(0,.rowR 10250000),(14,.val tI),(17,.val tI)],[],[.rowC 10250000 261 aS],aX _⟩),
 (33,⟨[(0,.rowR 10250000),(1,.val tI),(2,.val tI),(3,.val tI),(4,.val (.clo 220 .unit)),(18,.val tI),(19,.val tI),(20,.val tI),(21,.val tI),(22,.val tI)],[],[.rowC 10250000 261 aS],aX _⟩),
 (100030,⟨[(0,.rowR 10250000),(1,.val tI),(2,.val tI),(3,.val tI),(4,.val (.clo 220 .unit)),(18,.val tI),(19,.val tI),(20,.val tI),(21,.val tI)],[],[.rowC 10250000 261 aS],fun _=>0⟩),
 (100040,⟨[(0,.rowR 10250000),(1,.val tI),(3,.val tI),(4,.val (.clo 220 .unit)),(18,.val tI),(20,.val tI),(24,.val tI)],[],[.rowC 10250000 261 aS],fun _=>0⟩),
 (100042,⟨[(0,.rowR 10250000),(3,.val tI),(4,.val (.clo 220 .unit)),(18,.val tI),(24,.val tI)],[],[.rowC 10250000 261 aS],fun _=>0⟩),
 (200003,⟨[(0,.rowR 10250000),(1,.val tI),(10,.val tI)],[],[.rowC 10250000 261 aS],fun _=>0⟩),
 (200009,⟨[],[],[.rowC 10250000 261 aS],fun _=>0⟩),
 (200015,⟨[(0,.rowR 10250000),(2,.val tI),(14,.val tI)],[],[.rowC 10250000 261 aS],fun _=>0⟩),
 (200021,⟨[],[],[.rowC 10250000 261 aS],fun _=>0⟩),
 (200033,⟨[(0,.rowR 10250000),(1,.val tI),(2,.val tI),(3,.val tI),(4,.val (.clo 220 .unit)),(18,.val tI),(19,.val tI),(20,.val tI)],[],[.rowC 10250000 261 aS],fun _=>0⟩)]
def bE:List PM:=[.mrow 261 aS,.val tI,.val tI,.val tI,.val (.clo 220 .unit)]
def bW:List RM:=[]
noncomputable def kT:List (Nat×aH):=[(220,j9),(243,cP)]
noncomputable def lz:aH:=⟨bE,bW,fun x=>c7 x.1 x.2.1 x.2.2.1 x.2.2.2.1 x.2.2.2.2.1⟩
theorem s5:∀ (self:gd bE→Option (de bE bW)) (x:gd bE),aZ ⟨Tryz.prog,(242,⟨bE,bW,self⟩)::kT⟩ kM none Tryz.f242 ⟨bE,bW,fun x=>bP self x.1 x.2.1 x.2.2.1 x.2.2.2.1 x.2.2.2.2.1⟩ x=bP self x.1 x.2.1 x.2.2.1 x.2.2.2.1 x.2.2.2.2.1:=by intro self x;kernel_rfl
theorem lH:aA Tryz.prog 242:=ay (fn:=Tryz.f242) (by kernel_rfl) rfl (by decide)
theorem tv:aJ Tryz.prog 242 lz:=KP (ps:=bE) (rs:=bW) (m:=fun n x=>Am (fun self x=>bP self x.1 x.2.1 x.2.2.1 x.2.2.2.1 x.2.2.2.2.1) n x) (GG (P:=Tryz.prog) (specs:=kT) (ps:=bE) (rs:=bW) (.cons Bs BF (.cons uT vp (.nil _))) (by kernel_rfl) (fun self x=>bP self x.1 x.2.1 x.2.2.1 x.2.2.2.1 x.2.2.2.2.1) kM none (by kernel_rfl) lH s5) (fun x=>gu x.1 x.2.1 x.2.2.1 x.2.2.2.1 x.2.2.2.2.1)
def lD:List (Nat×Ann):=[(2,⟨[(0,.rowR 10250000),(1,.val tI),(2,.val (.clo 220 .unit)),(6,.val tI),(7,.val tI),(8,.val tI)],[],[.rowC 10250000 261 aS],aX _⟩),
 (7,⟨[(0,.rowR 10250000),(1,.val tI),(2,.val (.clo 220 .unit)),(6,.val tI)],[],[.rowC 10250000 261 aS],aX _⟩),
 (9,⟨[(0,.rowR 10250000),(1,.val tI),(2,.val (.clo 220 .unit)),(6,.val tI),(7,.val tI),(8,.val tI)],[],[.rowC 10250000 261 aS],aX _⟩),
 (200002,⟨[(0,.rowR 10250000),(1,.val tI),(2,.val (.clo 220 .unit)),(6,.val tI),(7,.val tI)],[],[.rowC 10250000 261 aS],fun _=>0⟩),
 (200007,⟨[],[],[.rowC 10250000 261 aS],fun _=>0⟩),
 (200009,⟨[(0,.rowR 10250000),(1,.val tI),(2,.val (.clo 220 .unit)),(6,.val tI),(7,.val tI)],[],[.rowC 10250000 261 aS],fun _=>0⟩)]
noncomputable def cO:aH:=⟨[.mrow 261 aS,.val tI,.val (.clo 220 .unit)],[],fun x=>jH x.1 x.2.1 x.2.2.1⟩
noncomputable def mE:Cx:=⟨Tryz.prog,[(241,bZ),(242,lz)]⟩
theorem uo:∀ x,aZ mE lD none Tryz.f234 cO x=cO.m x:=by intro x;kernel_rfl
theorem vm:aA Tryz.prog 234:=ay (fn:=Tryz.f234) (by kernel_rfl) rfl (by decide)
theorem u7:aJ Tryz.prog 234 cO:=aG (X:=mE) (.cons qx qz (.cons tv lH (.nil _))) (by kernel_rfl) cO lD none (by kernel_rfl) (fun x y h=>(uo x).trans h)
def kU:List (Nat×Ann):=[]
noncomputable def cK:aH:=⟨[.mrow 261 aS,.val (.clo 220 .unit)],[],fun x=>dh x.1 x.2.1⟩
noncomputable def l7:Cx:=⟨Tryz.prog,[(234,cO)]⟩
theorem tC:∀ x,aZ l7 kU none Tryz.f219 cK x=cK.m x:=by intro x;kernel_rfl
theorem ug:aA Tryz.prog 219:=ay (fn:=Tryz.f219) (by kernel_rfl) rfl (by decide)
theorem uh:aJ Tryz.prog 219 cK:=aG (X:=l7) (.cons u7 vm (.nil _)) (by kernel_rfl) cK kU none (by kernel_rfl) (fun x y h=>(tC x).trans h)
def Bn:List (Nat×Ann):=[(9,⟨[(1,.val (.slice tI)),(2,.ref 2 0),(8,.val tI),(33,.val (.slice tI)),(34,.val tI),(35,.val tI)],[(2,CN)],[],aX _⟩),
 (17,⟨[(2,.ref 2 0),(8,.val tI),(11,.val tI),(12,.val tI),(13,.own 261 aS),(50,.val (.slice tI)),(51,.val tI),(52,.val tI)],[(2,CN)],[],aX _⟩),
 (27,⟨[(2,.ref 2 0),(12,.val tI),(20,.rowR 88),(89,.own 261 aS),(90,.val tI),(91,.val tI)],[(2,CN)],[.rowC 88 33 aU],aX _⟩),
 (100030,⟨[(2,.ref 2 0),(12,.val tI),(20,.rowR 88),(22,.ref 22 0),(89,.own 261 aS),(90,.val tI),(91,.val tI)],[(2,CN),(22,[.val tI,.val tI,.val .bool,.val (.slice (.int .u32))])],[.rowC 88 33 aU],fun _=>0⟩),
 (100032,⟨[(2,.ref 2 0),(12,.val tI),(20,.rowR 88),(22,.ref 22 0),(89,.own 261 aS),(90,.val tI),(91,.val tI)],[(2,CN),(22,[.val tI,.val tI,.val .bool,.val (.slice (.int .u32))])],[.rowC 88 33 aU],fun _=>0⟩),
 (200009,⟨[(1,.val (.slice tI)),(2,.ref 2 0),(8,.val tI)],[(2,CN)],[],fun _=>0⟩),
 (200017,⟨[(2,.ref 2 0),(12,.val tI),(13,.own 261 aS)],[(2,CN)],[],fun _=>0⟩),
 (200027,⟨[(20,.rowR 88)],[],[.rowC 88 33 aU],fun _=>0⟩)]
noncomputable def oc:aH:=⟨[.val aU,.val (.slice tI)],[.val (.slice aU),.val tI],fun x=>sV x.1 x.2.1⟩
noncomputable def D1:Cx:=⟨Tryz.prog,[(102,cn),(127,fG),(137,iy),(143,fm),(195,kI),(218,jy),(219,cK)]⟩
theorem KI:∀ x,aZ D1 Bn none Tryz.f189 oc x=oc.m x:=by intro x;kernel_rfl
theorem LF:aA Tryz.prog 189:=ay (fn:=Tryz.f189) (by kernel_rfl) rfl (by decide)
theorem Lh:aJ Tryz.prog 189 oc:=aG (X:=D1) (.cons gA gB (.cons jw jI (.cons sG se (.cons mw mD (.cons zD yM (.cons Fk E7 (.cons uh ug (.nil _)))))))) (by kernel_rfl) oc Bn none (by kernel_rfl) (fun x y h=>(KI x).trans h)
def xo:List (Nat×Ann):=[(4,⟨[(0,.ref 2000 0),(3,.ref 3 0),(5,.own 3 tI),(6,.val .bool),(20,.val (.slice aj)),(21,.val tI),(22,.val tI)],[(3,jS),(2000,NJ)],[.rowC 10250002 135 aj,.rowC 10250004 135 aj,.rowC 10250005 186 cF,.rowC 10250006 135 aj,.rowC 10250007 4 .bool,.rowC 10250008 135 aj],aX _⟩),
 (21,⟨[(0,.ref 2000 0),(84,.val (.slice aU)),(85,.val tI),(86,.val tI)],[(2000,RZ)],[],aX _⟩),
 (200004,⟨[(0,.ref 2000 0),(3,.ref 3 0),(5,.own 3 tI),(6,.val .bool)],[(3,jS),(2000,NJ)],[.rowC 10250002 135 aj,.rowC 10250004 135 aj,.rowC 10250005 186 cF,.rowC 10250006 135 aj,.rowC 10250007 4 .bool,.rowC 10250008 135 aj],fun _=>0⟩),
 (200021,⟨[],[(2000,RZ)],[],fun _=>0⟩)]
noncomputable def kL:aH:=⟨[.box [.val bK,.row 135 aj,.val (.slice aj),.row 135 aj,.row 186 cF,.row 135 aj,.row 4 .bool,.row 135 aj],.val aj],[.val tI],fun x=>gD x.1 x.2.1⟩
noncomputable def zN:Cx:=⟨Tryz.prog,[(86,lQ),(127,fG),(128,jt),(137,iy),(158,gE),(186,oE),(187,gw),(189,oc)]⟩
theorem FP:∀ x,aZ zN xo none Tryz.f129 kL x=kL.m x:=by intro x;kernel_rfl
theorem Hg:aA Tryz.prog 129:=ay (fn:=Tryz.f129) (by kernel_rfl) rfl (by decide)
theorem GJ:aJ Tryz.prog 129 kL:=aG (X:=zN) (.cons AG Av (.cons jw jI (.cons z1 z6 (.cons sG se (.cons qD qN (.cons Lt La (.cons B6 BZ (.cons Lh LF (.nil _))))))))) (by kernel_rfl) kL xo none (by kernel_rfl) (fun x y h=>(FP x).trans h)
def yx:List (Nat×Ann):=[(6,⟨[(0,.ref 2000 0),(3,.ref 3 0),(5,.ref 5 0),(6,.val tI),(7,.val .bool),(35,.val (.slice aj)),(36,.val tI),(37,.val tI)],[(3,Sw),(5,jS),(2000,NJ)],[.rowC 10250002 135 aj,.rowC 10250004 135 aj,.rowC 10250005 186 cF,.rowC 10250006 135 aj,.rowC 10250007 4 .bool,.rowC 10250008 135 aj],aX _⟩),
 (100005,⟨[(0,.ref 2000 0),(3,.ref 3 0),(5,.ref 5 0),(6,.val tI),(7,.val .bool)],[(3,Sw),(5,jS),(2000,NJ)],[.rowC 10250002 135 aj,.rowC 10250004 135 aj,.rowC 10250005 186 cF,.rowC 10250006 135 aj,.rowC 10250007 4 .bool,.rowC 10250008 135 aj],fun _=>0⟩),
 (100012,⟨[(0,.ref 2000 0),(6,.val tI),(7,.val .bool),(10,.ref 10 0)],[(10,jS),(2000,NJ)],[.rowC 10250002 135 aj,.rowC 10250004 135 aj,.rowC 10250005 186 cF,.rowC 10250006 135 aj,.rowC 10250007 4 .bool,.rowC 10250008 135 aj],fun _=>0⟩),
 (200006,⟨[(0,.ref 2000 0),(3,.ref 3 0),(5,.ref 5 0),(6,.val tI),(7,.val .bool)],[(3,Sw),(5,jS),(2000,NJ)],[.rowC 10250002 135 aj,.rowC 10250004 135 aj,.rowC 10250005 186 cF,.rowC 10250006 135 aj,.rowC 10250007 4 .bool,.rowC 10250008 135 aj],fun _=>0⟩)]
noncomputable def lF:aH:=⟨[.box [.val bK,.row 135 aj,.val (.slice aj),.row 135 aj,.row 186 cF,.row 135 aj,.row 4 .bool,.row 135 aj],.val bO],[.val tI],fun x=>lS x.1 x.2.1⟩
noncomputable def Ac:Cx:=⟨Tryz.prog,[(71,cx),(72,di),(74,ij),(88,lV),(89,n7),(124,lR),(127,fG),(128,jt),(129,kL)]⟩
theorem Hj:∀ x,aZ Ac yx none Tryz.f68 lF x=lF.m x:=by intro x;kernel_rfl
theorem Iq:aA Tryz.prog 68:=ay (fn:=Tryz.f68) (by kernel_rfl) rfl (by decide)
theorem Im:aJ Tryz.prog 68 lF:=aG (X:=Ac) (.cons fQ fP (.cons vZ vW (.cons oD om (.cons DD DT (.cons C8 C5 (.cons AR AO (.cons jw jI (.cons z1 z6 (.cons GJ Hg (.nil _)))))))))) (by kernel_rfl) lF yx none (by kernel_rfl) (fun x y h=>(Hj x).trans h)
def Af:List (Nat×Ann):=[(3,⟨[(0,.ref 2000 0),(20,.val (.slice cq)),(21,.val tI),(22,.val tI)],[(2000,Sy)],[.rowC 13 135 aj,.rowC 10250002 135 aj,.rowC 10250004 135 aj,.rowC 10250005 186 cF,.rowC 10250006 135 aj,.rowC 10250007 4 .bool],aX _⟩),
 (9,⟨[(0,.ref 2000 0),(57,.rowR 10250005),(58,.val tI),(59,.val tI)],[(2000,Sy)],[.rowC 13 135 aj,.rowC 10250002 135 aj,.rowC 10250004 135 aj,.rowC 10250005 186 cF,.rowC 10250006 135 aj,.rowC 10250007 4 .bool],aX _⟩),
 (200003,⟨[(0,.ref 2000 0)],[(2000,Sy)],[.rowC 13 135 aj,.rowC 10250002 135 aj,.rowC 10250004 135 aj,.rowC 10250005 186 cF,.rowC 10250006 135 aj,.rowC 10250007 4 .bool],fun _=>0⟩),
 (200009,⟨[(0,.ref 2000 0)],[(2000,Sy)],[.rowC 13 135 aj,.rowC 10250002 135 aj,.rowC 10250004 135 aj,.rowC 10250005 186 cF,.rowC 10250006 135 aj,.rowC 10250007 4 .bool],fun _=>0⟩)]
noncomputable def nt:aH:=⟨[.box [.val bK,.row 135 aj,.val (.slice aj),.row 135 aj,.row 186 cF,.row 135 aj,.row 4 .bool,.row 135 aj]],[.val tI],fun x=>vK x.1⟩
noncomputable def Ch:Cx:=⟨Tryz.prog,[(71,cx),(72,dB),(89,n7)]⟩
theorem Jj:∀ x,aZ Ch Af none Tryz.f69 nt x=nt.m x:=by intro x;kernel_rfl
theorem Kh:aA Tryz.prog 69:=ay (fn:=Tryz.f69) (by kernel_rfl) rfl (by decide)
theorem KC:aJ Tryz.prog 69 nt:=aG (X:=Ch) (.cons fQ fP (.cons wh wj (.cons C8 C5 (.nil _)))) (by kernel_rfl) nt Af none (by kernel_rfl) (fun x y h=>(Jj x).trans h)
def zV:List (Nat×Ann):=[(9,⟨[(5,.ref 18 0),(25,.val (.slice bO)),(26,.val tI),(27,.val tI)],[(18,RZ)],[.ar oG],aX _⟩),
 (200009,⟨[(5,.ref 18 0)],[(18,RZ)],[.ar oG],fun _=>0⟩)]
noncomputable def nJ:aH:=⟨[.val bK,.ar oG],[.val .hnd,.val tI],fun x=>lT x.1 x.2.1⟩
noncomputable def Co:Cx:=⟨Tryz.prog,[(37,iL),(67,j6),(68,lF),(69,nt)]⟩
theorem Ja:∀ x,aZ Co zV none Tryz.f28 nJ x=nJ.m x:=by intro x;kernel_rfl
theorem Km:aA Tryz.prog 28:=ay (fn:=Tryz.f28) (by kernel_rfl) rfl (by decide)
theorem Kz:aJ Tryz.prog 28 nJ:=aG (X:=Co) (.cons zg zK (.cons Gq Gr (.cons Im Iq (.cons KC Kh (.nil _))))) (by kernel_rfl) nJ zV none (by kernel_rfl) (fun x y h=>(Ja x).trans h)
def HK:List (Nat×Ann):=[(3,⟨[(2,.ref 2 0),(3,.ref 3 0),(7,.val (.slice aj)),(8,.val tI),(9,.val tI)],[(2,wq),(3,jS)],[],aX _⟩),
 (200003,⟨[(2,.ref 2 0),(3,.ref 3 0)],[(2,wq),(3,jS)],[],fun _=>0⟩)]
noncomputable def wR:aH:=⟨[.val (.slice aj)],[.val aj],fun x=>AJ x.1⟩
noncomputable def KY:Cx:=⟨Tryz.prog,[(71,cx),(127,fG)]⟩
theorem P8:∀ x,aZ KY HK none Tryz.f70 wR x=wR.m x:=by intro x;kernel_rfl
theorem Rc:aA Tryz.prog 70:=ay (fn:=Tryz.f70) (by kernel_rfl) rfl (by decide)
theorem Rg:aJ Tryz.prog 70 wR:=aG (X:=KY) (.cons fQ fP (.cons jw jI (.nil _))) (by kernel_rfl) wR HK none (by kernel_rfl) (fun x y h=>(P8 x).trans h)
def yY:List (Nat×Ann):=[]
noncomputable def mI:aH:=⟨[.val .hnd,.val aj,.arR oG],[.val aU],fun x=>jh x.1 x.2.1 x.2.2.1⟩
noncomputable def BG:Cx:=⟨Tryz.prog,[(86,lQ)]⟩
theorem Ie:∀ x,aZ BG yY none Tryz.f75 mI x=mI.m x:=by intro x;kernel_rfl
theorem I4:aA Tryz.prog 75:=ay (fn:=Tryz.f75) (by kernel_rfl) rfl (by decide)
theorem IF:aJ Tryz.prog 75 mI:=aG (X:=BG) (.cons AG Av (.nil _)) (by kernel_rfl) mI yY none (by kernel_rfl) (fun x y h=>(Ie x).trans h)
def w7:List (Nat×Ann):=[]
noncomputable def kJ:aH:=⟨[.val .hnd,.arR oG],[.val JE,.val tI],fun x=>qL x.1 x.2.1⟩
noncomputable def yO:Cx:=⟨Tryz.prog,[(70,wR),(71,cx),(72,dz),(75,mI)]⟩
theorem FO:∀ x,aZ yO w7 none Tryz.f29 kJ x=kJ.m x:=by intro x;kernel_rfl
theorem GB:aA Tryz.prog 29:=ay (fn:=Tryz.f29) (by kernel_rfl) rfl (by decide)
theorem GQ:aJ Tryz.prog 29 kJ:=aG (X:=yO) (.cons Rg Rc (.cons fQ fP (.cons wN wH (.cons IF I4 (.nil _))))) (by kernel_rfl) kJ w7 none (by kernel_rfl) (fun x y h=>(FO x).trans h)
def DP:List (Nat×Ann):=[]
noncomputable def qP:aH:=⟨[.val bK],[.val JE,.val tI],fun x=>wW x.1⟩
noncomputable def Gi:Cx:=⟨Tryz.prog,[(28,nJ),(29,kJ)]⟩
theorem LY:∀ x,aZ Gi DP (some oG) Tryz.f12 qP x=qP.m x:=by intro x;kernel_rfl
theorem ND:aA Tryz.prog 12:=ay (fn:=Tryz.f12) (by kernel_rfl) rfl (by decide)
theorem Nu:aJ Tryz.prog 12 qP:=aG (X:=Gi) (.cons Kz Km (.cons GQ GB (.nil _))) (by kernel_rfl) qP DP (some oG) (by kernel_rfl) (fun x y h=>(LY x).trans h)
def Gy:List (Nat×Ann):=[]
noncomputable def uZ:aH:=⟨[.val aU],[.val aU],fun x=>JB x.1⟩
noncomputable def Jr:Cx:=⟨Tryz.prog,[]⟩
theorem OM:∀ x,aZ Jr Gy none Tryz.f46 uZ x=uZ.m x:=by intro x;kernel_rfl
theorem QE:aA Tryz.prog 46:=ay (fn:=Tryz.f46) (by kernel_rfl) rfl (by decide)
theorem Qe:aJ Tryz.prog 46 uZ:=aG (X:=Jr) (.nil _) (by kernel_rfl) uZ Gy none (by kernel_rfl) (fun x y h=>(OM x).trans h)
def Cd:List (Nat×Ann):=[]
noncomputable def pK:aH:=⟨[.val aU,.val aU],[.val .bool],fun x=>mN x.1 x.2.1⟩
noncomputable def EP:Cx:=⟨Tryz.prog,[(46,uZ)]⟩
theorem Lf:∀ x,aZ EP Cd none Tryz.f18 pK x=pK.m x:=by intro x;kernel_rfl
theorem L0:aA Tryz.prog 18:=ay (fn:=Tryz.f18) (by kernel_rfl) rfl (by decide)
theorem L3:aJ Tryz.prog 18 pK:=aG (X:=EP) (.cons Qe QE (.nil _)) (by kernel_rfl) pK Cd none (by kernel_rfl) (fun x y h=>(Lf x).trans h)
def oV:List (Nat×Ann):=[]
noncomputable def ic:aH:=⟨[.val bK,.val .str,.val tI],[.val .bool],fun x=>jM x.1 x.2.1 x.2.2.1⟩
noncomputable def qv:Cx:=⟨Tryz.prog,[(12,qP),(14,vj),(16,n9),(17,xu),(18,pK)]⟩
theorem yP:∀ x,aZ qv oV none Tryz.f5 ic x=ic.m x:=by intro x;kernel_rfl
theorem zQ:aJ Tryz.prog 5 ic:=aG (X:=qv) (.cons Nu ND (.cons Pg PR (.cons LL Lx (.cons Rq QJ (.cons L3 L0 (.nil _)))))) (by kernel_rfl) ic oV none (by kernel_rfl) (fun x y h=>(yP x).trans h)
end Go.Proofs.SeatS
