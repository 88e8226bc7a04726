/-
  Each function that the law reaches is as its plain model says. No condition.
-/
import Derived.Test.YtalfglakknbjkaaGreatDoorHn
import Derived.Test.YtalfglakknbjkaaGreatDoorHd
import Derived.Test.YtalfglakknbjkaaGreatDoorProg
import Derived.Shelf.Strings.SlTrimAscii
import Derived.Shelf.Small.Strs
set_option linter.all false
namespace Go.Proofs
open Go.Shelf
def Tryz.QM:Go.Shelf.Ren:=⟨fun | 160=>94 | 232=>149 | 231=>148 | 227=>150 | 234=>152 | 233=>151 | 236=>154 | 235=>153 | 228=>198 | 271=>201 | 151=>200 | 197=>199 | 120=>226 | 152=>225 | 260=>224 | 137=>236 | 119=>237 | 224=>229 | 225=>228 | 217=>227 | 266=>238 | n=>n,fun | 9=>9 | 4=>4 | 3=>3 | 5=>5 | 117=>205 | 116=>204 | 0=>0 | 124=>208 | 21=>21 | 105=>243 | 46=>177 | 119=>275 | 139=>278 | 138=>277 | n=>n,fun | 3=>1 | 4=>2 | n=>n⟩
theorem Tryz.U8:Go.Proofs.Lays.n160 Tryz.prog Tryz.QM:={
 mixed:=by kernel_rfl
 f119:=Tryz.func237.trans (congrArg some (by kernel_rfl))
 f120:=Tryz.func226.trans (congrArg some (by kernel_rfl))
 f137:=Tryz.func236.trans (congrArg some (by kernel_rfl))
 f151:=Tryz.func200.trans (congrArg some (by kernel_rfl))
 f152:=Tryz.func225.trans (congrArg some (by kernel_rfl))
 f160:=Tryz.func94.trans (congrArg some (by kernel_rfl))
 f197:=Tryz.func199.trans (congrArg some (by kernel_rfl))
 f217:=Tryz.func227.trans (congrArg some (by kernel_rfl))
 f224:=Tryz.func229.trans (congrArg some (by kernel_rfl))
 f225:=Tryz.func228.trans (congrArg some (by kernel_rfl))
 f227:=Tryz.func150.trans (congrArg some (by kernel_rfl))
 f228:=Tryz.func198.trans (congrArg some (by kernel_rfl))
 f231:=Tryz.func148.trans (congrArg some (by kernel_rfl))
 f232:=Tryz.func149.trans (congrArg some (by kernel_rfl))
 f233:=Tryz.func151.trans (congrArg some (by kernel_rfl))
 f234:=Tryz.func152.trans (congrArg some (by kernel_rfl))
 f235:=Tryz.func153.trans (congrArg some (by kernel_rfl))
 f236:=Tryz.func154.trans (congrArg some (by kernel_rfl))
 f260:=Tryz.func224.trans (congrArg some (by kernel_rfl))
 f266:=Tryz.func238.trans (congrArg some (by kernel_rfl))
 f271:=Tryz.func201.trans (congrArg some (by kernel_rfl))
 t0:=Tryz.underlying0
 a0:=Tryz.isAgg0
 z0:=Tryz.sizeOf0
 v0:=Tryz.zeroValue0
 t3:=Tryz.underlying3
 a3:=Tryz.isAgg3
 z3:=Tryz.sizeOf3
 v3:=Tryz.zeroValue3
 t4:=Tryz.underlying4
 a4:=Tryz.isAgg4
 z4:=Tryz.sizeOf4
 v4:=Tryz.zeroValue4
 t5:=Tryz.underlying5
 a5:=Tryz.isAgg5
 z5:=Tryz.sizeOf5
 v5:=Tryz.zeroValue5
 t9:=Tryz.underlying9
 a9:=Tryz.isAgg9
 z9:=Tryz.sizeOf9
 v9:=Tryz.zeroValue9
 t21:=Tryz.underlying21
 a21:=Tryz.isAgg21
 z21:=Tryz.sizeOf21
 v21:=Tryz.zeroValue21
 t46:=Tryz.underlying177
 a46:=Tryz.isAgg177
 z46:=Tryz.sizeOf177
 v46:=Tryz.zeroValue177
 t105:=Tryz.underlying243
 a105:=Tryz.isAgg243
 z105:=Tryz.sizeOf243
 v105:=Tryz.zeroValue243
 t116:=Tryz.underlying204
 a116:=Tryz.isAgg204
 z116:=Tryz.sizeOf204
 t117:=Tryz.underlying205
 a117:=Tryz.isAgg205
 z117:=Tryz.sizeOf205
 v117:=Tryz.zeroValue205
 t119:=Tryz.underlying275
 a119:=Tryz.isAgg275
 z119:=Tryz.sizeOf275
 t124:=Tryz.underlying208
 a124:=Tryz.isAgg208
 z124:=Tryz.sizeOf208
 v124:=Tryz.zeroValue208
 t138:=Tryz.underlying277
 a138:=Tryz.isAgg277
 z138:=Tryz.sizeOf277
 v138:=Tryz.zeroValue277
 t139:=Tryz.underlying278
 a139:=Tryz.isAgg278
 z139:=Tryz.sizeOf278
 v139:=Tryz.zeroValue278
 g3:=by kernel_rfl
 g4:=by kernel_rfl }
def Tryz.QC:Go.Shelf.Ren:=⟨fun | 106=>185 | 213=>216 | 265=>233 | n=>n,fun | 9=>9 | 3=>3 | n=>n,fun | n=>n⟩
theorem Tryz.UH:Go.Proofs.Lays.n106 Tryz.prog Tryz.QC:={
 mixed:=by kernel_rfl
 f106:=Tryz.func185.trans (congrArg some (by kernel_rfl))
 f213:=Tryz.func216.trans (congrArg some (by kernel_rfl))
 f265:=Tryz.func233.trans (congrArg some (by kernel_rfl))
 t3:=Tryz.underlying3
 a3:=Tryz.isAgg3
 z3:=Tryz.sizeOf3
 v3:=Tryz.zeroValue3
 t9:=Tryz.underlying9
 a9:=Tryz.isAgg9
 z9:=Tryz.sizeOf9
 v9:=Tryz.zeroValue9 }
end Go.Proofs
namespace Go.Proofs.SeatS
open Go.Dn Go.Md Go.Proofs Go.RowKit Go.Shelf Go.Lib
def zS:aI:=⟨[.val .str,.val .str],[.val .str],fun x=>q7 x.1 x.2.1⟩
theorem ME:az Tryz.prog 94:=ax (fn:=Tryz.f94) (by kernel_rfl) rfl (by decide)
theorem Mg:aK Tryz.prog 94 zS:=by
 intro G w ow args x y hG how ha hm
 refine Ri (P:=Tryz.prog) (f:=94) (m:=zS.m) ?_ G w ow args x y hG how ha hm
 intro s c r w hm
 replace hm:q7 s c=some (r,()):=hm
 unfold q7 at hm
 cases hb:(decide (s.length≤9223372036854775807)&&(decide (c.length<4294967281)&&c.all fun b=>decide (b.toNat<128))) with
 | false=>rw [hb] at hm;cases hm
 | true=>
  rw [hb] at hm
  simp only [cond_true,Option.some.injEq,Prod.mk.injEq,and_true] at hm
  subst hm
  simp only [VZ,decide_eq_true_eq,Wq] at hb
  have:=Any.strings_Trim_laid Tryz.U8 (by kernel_rfl) (bs s) (bs c) w (by simpa [bs,ByteArray.size] using hb.1) (by simpa [bs,ByteArray.size] using hb.2.1) (fun j b hj=>hb.2.2 b (List.mem_of_getElem? (by simpa [bs] using hj)))
  change Calls Tryz.prog 94 _ _ _ at this
  simpa [bs] using this
def u5:aI:=⟨[.val .str,.val .str],[.val tI],fun x=>strings_Compare x.1 x.2.1⟩
theorem JN:az Tryz.prog 185:=ax (fn:=Tryz.f185) (by kernel_rfl) rfl (by decide)
theorem Jb:aK Tryz.prog 185 u5:=by
 intro G w ow args x y hG how ha hm
 refine SY (P:=Tryz.prog) (f:=185) (t:=tI) (m:=u5.m) ?_ G w ow args x y hG how ha hm
 intro s c r w hm
 replace hm:strings_Compare s c=some (r,()):=hm
 unfold strings_Compare at hm
 obtain rfl:Lib.compareBytes s c=r:=congrArg (fun o=>(Option.getD o (0,())).1) hm
 have:=Any.strings_Compare Tryz.UH (bs s) (bs c) w
 refine ⟨.int .i64 (Lib.compareBytes s c),fun G=> ?_,this.mono ?_⟩
 ·rfl
 ·rintro e w' ⟨he,rfl⟩
  exact ⟨he,Below.refl _ _⟩
end Go.Proofs.SeatS
namespace Go.Proofs
open Go.Shelf
def Tryz.Rj:Go.Shelf.Ren:=⟨fun | 190=>57 | 125=>118 | 258=>117 | 128=>175 | 129=>176 | 302=>166 | 303=>167 | 304=>168 | 305=>169 | 306=>170 | 307=>171 | 308=>172 | 309=>173 | 310=>174 | 333=>207 | 329=>208 | 330=>209 | 334=>210 | 335=>211 | 336=>212 | 344=>232 | n=>n,fun | 31=>58 | 9=>9 | 3=>3 | 46=>177 | 0=>0 | 51=>223 | 53=>225 | 4=>4 | 183=>216 | 182=>215 | 131=>144 | 5=>5 | 218=>249 | 222=>253 | 228=>269 | 229=>270 | n=>n,fun | n=>n⟩
theorem Tryz.UP:Go.Proofs.Lays.n190 Tryz.prog Tryz.Rj:={
 mixed:=by kernel_rfl
 f125:=Tryz.func118.trans (congrArg some (by kernel_rfl))
 f128:=Tryz.func175.trans (congrArg some (by kernel_rfl))
 f129:=Tryz.func176.trans (congrArg some (by kernel_rfl))
 f190:=Tryz.func57.trans (congrArg some (by kernel_rfl))
 f258:=Tryz.func117.trans (congrArg some (by kernel_rfl))
 f302:=Tryz.func166.trans (congrArg some (by kernel_rfl))
 f303:=Tryz.func167.trans (congrArg some (by kernel_rfl))
 f304:=Tryz.func168.trans (congrArg some (by kernel_rfl))
 f305:=Tryz.func169.trans (congrArg some (by kernel_rfl))
 f306:=Tryz.func170.trans (congrArg some (by kernel_rfl))
 f307:=Tryz.func171.trans (congrArg some (by kernel_rfl))
 f308:=Tryz.func172.trans (congrArg some (by kernel_rfl))
 f309:=Tryz.func173.trans (congrArg some (by kernel_rfl))
 f310:=Tryz.func174.trans (congrArg some (by kernel_rfl))
 f329:=Tryz.func208.trans (congrArg some (by kernel_rfl))
 f330:=Tryz.func209.trans (congrArg some (by kernel_rfl))
 f333:=Tryz.func207.trans (congrArg some (by kernel_rfl))
 f334:=Tryz.func210.trans (congrArg some (by kernel_rfl))
 f335:=Tryz.func211.trans (congrArg some (by kernel_rfl))
 f336:=Tryz.func212.trans (congrArg some (by kernel_rfl))
 f344:=Tryz.func232.trans (congrArg some (by kernel_rfl))
 t0:=Tryz.underlying0
 a0:=Tryz.isAgg0
 z0:=Tryz.sizeOf0
 v0:=Tryz.zeroValue0
 t3:=Tryz.underlying3
 a3:=Tryz.isAgg3
 z3:=Tryz.sizeOf3
 v3:=Tryz.zeroValue3
 t4:=Tryz.underlying4
 a4:=Tryz.isAgg4
 z4:=Tryz.sizeOf4
 v4:=Tryz.zeroValue4
 t5:=Tryz.underlying5
 a5:=Tryz.isAgg5
 z5:=Tryz.sizeOf5
 v5:=Tryz.zeroValue5
 t9:=Tryz.underlying9
 a9:=Tryz.isAgg9
 z9:=Tryz.sizeOf9
 v9:=Tryz.zeroValue9
 t31:=Tryz.underlying58
 a31:=Tryz.isAgg58
 z31:=Tryz.sizeOf58
 v31:=Tryz.zeroValue58
 t46:=Tryz.underlying177
 a46:=Tryz.isAgg177
 z46:=Tryz.sizeOf177
 v46:=Tryz.zeroValue177
 t51:=Tryz.underlying223
 a51:=Tryz.isAgg223
 z51:=Tryz.sizeOf223
 v51:=Tryz.zeroValue223
 t53:=Tryz.underlying225
 a53:=Tryz.isAgg225
 z53:=Tryz.sizeOf225
 v53:=Tryz.zeroValue225
 t131:=Tryz.underlying144
 a131:=Tryz.isAgg144
 z131:=Tryz.sizeOf144
 v131:=Tryz.zeroValue144
 t182:=Tryz.underlying215
 a182:=Tryz.isAgg215
 z182:=Tryz.sizeOf215
 v182:=Tryz.zeroValue215
 t183:=Tryz.underlying216
 a183:=Tryz.isAgg216
 z183:=Tryz.sizeOf216
 v183:=Tryz.zeroValue216
 t218:=Tryz.underlying249
 a218:=Tryz.isAgg249
 z218:=Tryz.sizeOf249
 v218:=Tryz.zeroValue249
 t222:=Tryz.underlying253
 a222:=Tryz.isAgg253
 z222:=Tryz.sizeOf253
 v222:=Tryz.zeroValue253
 t228:=Tryz.underlying269
 a228:=Tryz.isAgg269
 z228:=Tryz.sizeOf269
 v228:=Tryz.zeroValue269
 t229:=Tryz.underlying270
 a229:=Tryz.isAgg270
 z229:=Tryz.sizeOf270
 v229:=Tryz.zeroValue270 }
def Tryz.QO:Go.Shelf.Ren:=⟨fun | 194=>58 | n=>n,fun | 31=>58 | 9=>9 | 3=>3 | 4=>4 | 0=>0 | n=>n,fun | n=>n⟩
theorem Tryz.UR:Go.Proofs.Lays.n194 Tryz.prog Tryz.QO:={
 mixed:=by kernel_rfl
 f194:=Tryz.func58.trans (congrArg some (by kernel_rfl))
 t0:=Tryz.underlying0
 a0:=Tryz.isAgg0
 z0:=Tryz.sizeOf0
 v0:=Tryz.zeroValue0
 t3:=Tryz.underlying3
 a3:=Tryz.isAgg3
 z3:=Tryz.sizeOf3
 v3:=Tryz.zeroValue3
 t4:=Tryz.underlying4
 a4:=Tryz.isAgg4
 z4:=Tryz.sizeOf4
 v4:=Tryz.zeroValue4
 t9:=Tryz.underlying9
 a9:=Tryz.isAgg9
 z9:=Tryz.sizeOf9
 v9:=Tryz.zeroValue9
 t31:=Tryz.underlying58
 a31:=Tryz.isAgg58
 z31:=Tryz.sizeOf58
 v31:=Tryz.zeroValue58 }
end Go.Proofs
namespace Go.Proofs.SeatS
open Go.Dn Go.Md Go.Proofs
noncomputable def yF:aI:=⟨[.mrow 9 .str],[],fun x=>slices_Sort_string x.1⟩
theorem FU:az Tryz.prog 57:=ax (fn:=Tryz.f57) (by kernel_rfl) rfl (by decide)
theorem GL:aK Tryz.prog 57 yF:=NB Tryz.UP
noncomputable def u0:aI:=⟨[.row 9 .str],[.row 9 .str],fun x=>slices_Compact_string x.1⟩
theorem DH:az Tryz.prog 58:=ax (fn:=Tryz.f58) (by kernel_rfl) rfl (by decide)
theorem DY:aK Tryz.prog 58 u0:=Kv Tryz.UR
end Go.Proofs.SeatS
set_option maxRecDepth 100000
namespace Go.Proofs.SeatS
open Go.Dn Go.Md Go.Proofs
def wS:List CK:=[.val .bool,.own 223 (.int .u32)]
def jZ:List CK:=[.val .bool,.val (.slice (.int .u32))]
def Sc:List CK:=[.val .bool,.val tI,.val tI,.val .str]
def Vk:List CK:=[.val .str,.val .str,.val tI,.val tI,.val tI,.val .bool,.val (.slice fX),.val (.slice iS),.val (.slice gv),.own 135 aj,.rowR 19,.rowR 10250004,.own 186 cK,.rowR 10250006,.rowR 21,.rowR 10250008]
def SJ:List CK:=[.val .str,.val .str,.val tI,.val tI,.val tI,.val .bool,.val (.slice fX),.val (.slice iS),.val (.slice gv),.own 135 aj,.val (.slice aj),.own 135 aj,.own 186 cK,.own 135 aj,.own 4 .bool,.own 135 aj]
def NL:List CK:=[.val .str,.val .str,.val tI,.val tI,.val tI,.val .bool,.val (.slice fX),.val (.slice iS),.val (.slice gv),.rowR 10250002,.val (.slice aj),.rowR 10250004,.rowR 10250005,.rowR 10250006,.rowR 10250007,.rowR 10250008]
def R7:List CK:=[.val .str,.val .str,.val tI,.val tI,.val tI,.val .bool,.val (.slice fX),.val (.slice iS),.val (.slice gv),.rowR 10250002,.val (.slice aj),.rowR 10250004,.rowR 10250005,.rowR 10250006,.rowR 10250007,.rowR 13]
def FF:List CK:=[.val .str,.val .str,.val tI,.val tI,.val tI,.val .bool,.val (.slice fX),.val (.slice iS),.val (.slice gv)]
def SK:List CK:=[.val tI,.val tI,.val tI,.val (.slice .str)]
def Ea:List CK:=[.val tI,.val tI]
def E6:List (Nat×Ann):=[]
noncomputable def iO:aI:=⟨[.val .str],[.val .bool],fun x=>gH x.1⟩
noncomputable def HU:Cx:=⟨Tryz.prog,[(94,zS)]⟩
theorem Nt:∀ x,bf HU E6 none Tryz.f38 iO x=iO.m x:=by intro x;kernel_rfl
theorem pn:az Tryz.prog 38:=ax (fn:=Tryz.f38) (by kernel_rfl) rfl (by decide)
theorem pJ:aK Tryz.prog 38 iO:=aH (X:=HU) (.cons Mg ME (.nil _)) (by kernel_rfl) iO E6 none (by kernel_rfl) (fun x y h=>(Nt x).trans h)
def D9:List (Nat×Ann):=[]
noncomputable def eY:aI:=⟨[.val tI,.val tI,.val tI],[.val .bool],fun x=>cu x.1 x.2.1 x.2.2.1⟩
noncomputable def Gy:Cx:=⟨Tryz.prog,[]⟩
theorem MJ:∀ x,bf Gy D9 none Tryz.f39 eY x=eY.m x:=by intro x;kernel_rfl
theorem j6:az Tryz.prog 39:=ax (fn:=Tryz.f39) (by kernel_rfl) rfl (by decide)
theorem kC:aK Tryz.prog 39 eY:=aH (X:=Gy) (.nil _) (by kernel_rfl) eY D9 none (by kernel_rfl) (fun x y h=>(MJ x).trans h)
def F8:List (Nat×Ann):=[]
noncomputable def oC:aI:=⟨[.val tI],[.val .bool],fun x=>yT x.1⟩
noncomputable def JC:Cx:=⟨Tryz.prog,[(39,eY)]⟩
theorem Oy:∀ x,bf JC F8 none Tryz.f50 oC x=oC.m x:=by intro x;kernel_rfl
theorem DN:az Tryz.prog 50:=ax (fn:=Tryz.f50) (by kernel_rfl) rfl (by decide)
theorem DE:aK Tryz.prog 50 oC:=aH (X:=JC) (.cons kC j6 (.nil _)) (by kernel_rfl) oC F8 none (by kernel_rfl) (fun x y h=>(Oy x).trans h)
def CT:List (Nat×Ann):=[]
noncomputable def pN:aI:=⟨[.val tI],[.val .bool],fun x=>DA x.1⟩
noncomputable def EW:Cx:=⟨Tryz.prog,[(39,eY)]⟩
theorem LN:∀ x,bf EW CT none Tryz.f90 pN x=pN.m x:=by intro x;kernel_rfl
theorem M7:az Tryz.prog 90:=ax (fn:=Tryz.f90) (by kernel_rfl) rfl (by decide)
theorem Mh:aK Tryz.prog 90 pN:=aH (X:=EW) (.cons kC j6 (.nil _)) (by kernel_rfl) pN CT none (by kernel_rfl) (fun x y h=>(LN x).trans h)
def uX:List (Nat×Ann):=[]
noncomputable def b6:aI:=⟨[.val aQ],[.val tI],fun x=>bU x.1⟩
noncomputable def xI:Cx:=⟨Tryz.prog,[(39,eY)]⟩
theorem Ev:∀ x,bf xI uX none Tryz.f102 b6 x=b6.m x:=by intro x;kernel_rfl
theorem fK:az Tryz.prog 102:=ax (fn:=Tryz.f102) (by kernel_rfl) rfl (by decide)
theorem fL:aK Tryz.prog 102 b6:=aH (X:=xI) (.cons kC j6 (.nil _)) (by kernel_rfl) b6 uX none (by kernel_rfl) (fun x y h=>(Ev x).trans h)
def EY:List (Nat×Ann):=[(3,⟨[(3,.val tI),(4,.val tI),(5,.val tI)],[],[],aY _⟩),
 (200003,⟨[(3,.val tI)],[],[],fun _=>0⟩)]
noncomputable def nA:aI:=⟨[.val tI],[.val tI],fun x=>vN x.1⟩
noncomputable def Ih:Cx:=⟨Tryz.prog,[]⟩
theorem Nu:∀ x,bf Ih EY none Tryz.f160 nA x=nA.m x:=by intro x;kernel_rfl
theorem Cj:az Tryz.prog 160:=ax (fn:=Tryz.f160) (by kernel_rfl) rfl (by decide)
theorem Cv:aK Tryz.prog 160 nA:=aH (X:=Ih) (.nil _) (by kernel_rfl) nA EY none (by kernel_rfl) (fun x y h=>(Nu x).trans h)
def CM:List (Nat×Ann):=[]
noncomputable def jv:aI:=⟨[.val aQ,.val tI],[.val .bool],fun x=>fD x.1 x.2.1⟩
noncomputable def EA:Cx:=⟨Tryz.prog,[(39,eY),(160,nA)]⟩
theorem LB:∀ x,bf EA CM none Tryz.f103 jv x=jv.m x:=by intro x;kernel_rfl
theorem tZ:az Tryz.prog 103:=ax (fn:=Tryz.f103) (by kernel_rfl) rfl (by decide)
theorem tW:aK Tryz.prog 103 jv:=aH (X:=EA) (.cons kC j6 (.cons Cv Cj (.nil _))) (by kernel_rfl) jv CM none (by kernel_rfl) (fun x y h=>(LB x).trans h)
def zn:List (Nat×Ann):=[(6,⟨[(0,.val (.slice fX)),(12,.val (.slice fX)),(13,.val tI),(14,.val tI)],[],[],aY _⟩),
 (200006,⟨[],[],[],fun _=>0⟩)]
noncomputable def mZ:aI:=⟨[.val (.slice fX)],[.val tI],fun x=>nt x.1⟩
noncomputable def B5:Cx:=⟨Tryz.prog,[(38,iO),(102,b6),(103,jv)]⟩
theorem Iz:∀ x,bf B5 zn none Tryz.f91 mZ x=mZ.m x:=by intro x;kernel_rfl
theorem Jv:az Tryz.prog 91:=ax (fn:=Tryz.f91) (by kernel_rfl) rfl (by decide)
theorem Jg:aK Tryz.prog 91 mZ:=aH (X:=B5) (.cons pJ pn (.cons fL fK (.cons tW tZ (.nil _)))) (by kernel_rfl) mZ zn none (by kernel_rfl) (fun x y h=>(Iz x).trans h)
def D8:List (Nat×Ann):=[(3,⟨[(3,.val tI),(4,.val tI),(5,.val tI)],[],[],aY _⟩),
 (200003,⟨[(3,.val tI)],[],[],fun _=>0⟩)]
noncomputable def ry:aI:=⟨[.val tI],[.val tI],fun x=>Fx x.1⟩
noncomputable def Gr:Cx:=⟨Tryz.prog,[]⟩
theorem Mn:∀ x,bf Gr D8 none Tryz.f223 ry x=ry.m x:=by intro x;kernel_rfl
theorem Nz:az Tryz.prog 223:=ax (fn:=Tryz.f223) (by kernel_rfl) rfl (by decide)
theorem Nk:aK Tryz.prog 223 ry:=aH (X:=Gr) (.nil _) (by kernel_rfl) ry D8 none (by kernel_rfl) (fun x y h=>(Mn x).trans h)
def CF:List (Nat×Ann):=[]
noncomputable def pW:aI:=⟨[.val aQ,.val tI,.val tI],[.val .bool],fun x=>DL x.1 x.2.1 x.2.2.1⟩
noncomputable def E8:Cx:=⟨Tryz.prog,[(223,ry)]⟩
theorem LU:∀ x,bf E8 CF none Tryz.f197 pW x=pW.m x:=by intro x;kernel_rfl
theorem LY:az Tryz.prog 197:=ax (fn:=Tryz.f197) (by kernel_rfl) rfl (by decide)
theorem MB:aK Tryz.prog 197 pW:=aH (X:=E8) (.cons Nk Nz (.nil _)) (by kernel_rfl) pW CF none (by kernel_rfl) (fun x y h=>(LU x).trans h)
def yQ:List (Nat×Ann):=[]
noncomputable def lG:aI:=⟨[.val aQ],[.val tI],fun x=>oN x.1⟩
noncomputable def Am:Cx:=⟨Tryz.prog,[(102,b6),(197,pW)]⟩
theorem GX:∀ x,bf Am yQ none Tryz.f146 lG x=lG.m x:=by intro x;kernel_rfl
theorem Iq:az Tryz.prog 146:=ax (fn:=Tryz.f146) (by kernel_rfl) rfl (by decide)
theorem IB:aK Tryz.prog 146 lG:=aH (X:=Am) (.cons fL fK (.cons MB LY (.nil _))) (by kernel_rfl) lG yQ none (by kernel_rfl) (fun x y h=>(GX x).trans h)
def BC:List (Nat×Ann):=[]
noncomputable def oE:aI:=⟨[.val fX,.val .str],[.val tI],fun x=>Ct x.1 x.2.1⟩
noncomputable def D4:Cx:=⟨Tryz.prog,[(185,u5)]⟩
theorem Ks:∀ x,bf D4 BC none Tryz.f184 oE x=oE.m x:=by intro x;kernel_rfl
theorem Lr:az Tryz.prog 184:=ax (fn:=Tryz.f184) (by kernel_rfl) rfl (by decide)
theorem LV:aK Tryz.prog 184 oE:=aH (X:=D4) (.cons Jb JN (.nil _)) (by kernel_rfl) oE BC none (by kernel_rfl) (fun x y h=>(Ks x).trans h)
def jB:List (Nat×Ann):=[(3,⟨[(0,.val (.slice fX)),(1,.val .str),(2,.val (.clo 184 .unit)),(8,.val tI),(9,.val tI),(10,.val tI)],[],[],aY _⟩),
 (200003,⟨[(0,.val (.slice fX)),(1,.val .str),(2,.val (.clo 184 .unit)),(8,.val tI),(9,.val tI)],[],[],fun _=>0⟩)]
noncomputable def cg:aI:=⟨[.val (.slice fX),.val .str,.val (.clo 184 .unit)],[.val tI,.val .bool],fun x=>dM x.1 x.2.1 x.2.2.1⟩
noncomputable def kj:Cx:=⟨Tryz.prog,[(184,oE)]⟩
theorem qC:∀ x,bf kj jB none Tryz.f183 cg x=cg.m x:=by intro x;kernel_rfl
theorem q8:az Tryz.prog 183:=ax (fn:=Tryz.f183) (by kernel_rfl) rfl (by decide)
theorem qX:aK Tryz.prog 183 cg:=aH (X:=kj) (.cons LV Lr (.nil _)) (by kernel_rfl) cg jB none (by kernel_rfl) (fun x y h=>(qC x).trans h)
def DC:List (Nat×Ann):=[]
noncomputable def me:aI:=⟨[.val (.slice fX),.val .str],[.val tI,.val .bool],fun x=>qk x.1 x.2.1⟩
noncomputable def Gn:Cx:=⟨Tryz.prog,[(183,cg)]⟩
theorem LZ:∀ x,bf Gn DC none Tryz.f124 me x=me.m x:=by intro x;kernel_rfl
theorem A8:az Tryz.prog 124:=ax (fn:=Tryz.f124) (by kernel_rfl) rfl (by decide)
theorem AN:aK Tryz.prog 124 me:=aH (X:=Gn) (.cons qX q8 (.nil _)) (by kernel_rfl) me DC none (by kernel_rfl) (fun x y h=>(LZ x).trans h)
def CI:List (Nat×Ann):=[]
noncomputable def nw:aI:=⟨[.val bT,.val .str],[.val .bool],fun x=>jO x.1 x.2.1⟩
noncomputable def EJ:Cx:=⟨Tryz.prog,[(124,me)]⟩
theorem LH:∀ x,bf EJ CI none Tryz.f147 nw x=nw.m x:=by intro x;kernel_rfl
theorem EU:az Tryz.prog 147:=ax (fn:=Tryz.f147) (by kernel_rfl) rfl (by decide)
theorem EM:aK Tryz.prog 147 nw:=aH (X:=EJ) (.cons AN A8 (.nil _)) (by kernel_rfl) nw CI none (by kernel_rfl) (fun x y h=>(LH x).trans h)
def yG:List (Nat×Ann):=[(4,⟨[(2,.val .bool),(3,.ref 3 0),(13,.val (.slice gv)),(14,.val tI),(15,.val tI)],[(3,FF)],[],aY _⟩),
 (100012,⟨[(2,.val .bool),(3,.ref 3 0),(8,.ref 8 0),(13,.val (.slice gv)),(14,.val tI),(15,.val tI),(30,.val .bool)],[(3,FF),(8,Sc)],[],fun _=>0⟩),
 (200004,⟨[],[],[],fun _=>0⟩)]
noncomputable def jz:aI:=⟨[.val bT,.val (.slice gv),.val .bool],[.val tI],fun x=>jW x.1 x.2.1 x.2.2.1⟩
noncomputable def Av:Cx:=⟨Tryz.prog,[(102,b6),(103,jv),(147,nw)]⟩
theorem He:∀ x,bf Av yG none Tryz.f93 jz x=jz.m x:=by intro x;kernel_rfl
theorem Aq:az Tryz.prog 93:=ax (fn:=Tryz.f93) (by kernel_rfl) rfl (by decide)
theorem Ao:aK Tryz.prog 93 jz:=aH (X:=Av) (.cons fL fK (.cons tW tZ (.cons EM EU (.nil _)))) (by kernel_rfl) jz yG none (by kernel_rfl) (fun x y h=>(He x).trans h)
def Az:List (Nat×Ann):=[]
noncomputable def nN:aI:=⟨[.val bT,.val tI],[.val tI],fun x=>rE x.1 x.2.1⟩
noncomputable def CG:Cx:=⟨Tryz.prog,[(38,iO),(39,eY),(93,jz),(102,b6),(103,jv),(146,lG),(147,nw)]⟩
theorem JE:∀ x,bf CG Az none Tryz.f92 nN x=nN.m x:=by intro x;kernel_rfl
theorem KA:az Tryz.prog 92:=ax (fn:=Tryz.f92) (by kernel_rfl) rfl (by decide)
theorem KB:aK Tryz.prog 92 nN:=aH (X:=CG) (.cons pJ pn (.cons kC j6 (.cons Ao Aq (.cons fL fK (.cons tW tZ (.cons IB Iq (.cons EM EU (.nil _)))))))) (by kernel_rfl) nN Az none (by kernel_rfl) (fun x y h=>(JE x).trans h)
def xy:List (Nat×Ann):=[(15,⟨[(1,.ref 1 0),(48,.val tI),(49,.val tI)],[(1,FF)],[],aY _⟩),
 (200015,⟨[(1,.ref 1 0)],[(1,FF)],[],fun _=>0⟩)]
noncomputable def kR:aI:=⟨[.val bT],[.val tI],fun x=>qK x.1⟩
noncomputable def z8:Cx:=⟨Tryz.prog,[(38,iO),(39,eY),(50,oC),(90,pN),(91,mZ),(92,nN),(93,jz)]⟩
theorem Gz:∀ x,bf z8 xy none Tryz.f37 kR x=kR.m x:=by intro x;kernel_rfl
theorem Ho:az Tryz.prog 37:=ax (fn:=Tryz.f37) (by kernel_rfl) rfl (by decide)
theorem G7:aK Tryz.prog 37 kR:=aH (X:=z8) (.cons pJ pn (.cons kC j6 (.cons DE DN (.cons Mh M7 (.cons Jg Jv (.cons KB KA (.cons Ao Aq (.nil _)))))))) (by kernel_rfl) kR xy none (by kernel_rfl) (fun x y h=>(Gz x).trans h)
def BK:List (Nat×Ann):=[(1,⟨[(0,.val (.slice (.int .u32)))],[],[],aY _⟩),
 (200001,⟨[(0,.val (.slice (.int .u32)))],[],[],fun _=>0⟩)]
noncomputable def jY:aI:=⟨[.val (.slice (.int .u32))],[.val (.slice (.int .u32))],fun x=>pI x.1⟩
noncomputable def DS:Cx:=⟨Tryz.prog,[]⟩
theorem KD:∀ x,bf DS BK none Tryz.f190 jY x=jY.m x:=by intro x;kernel_rfl
theorem yh:az Tryz.prog 190:=ax (fn:=Tryz.f190) (by kernel_rfl) rfl (by decide)
theorem x8:aK Tryz.prog 190 jY:=aH (X:=DS) (.nil _) (by kernel_rfl) jY BK none (by kernel_rfl) (fun x y h=>(KD x).trans h)
def E0:List (Nat×Ann):=[]
noncomputable def iP:aI:=⟨[.val .bool,.val (.slice (.int .u32))],[.val aj],fun x=>iT x.1 x.2.1⟩
noncomputable def H8:Cx:=⟨Tryz.prog,[(190,jY)]⟩
theorem ND:∀ x,bf H8 E0 none Tryz.f132 iP x=iP.m x:=by intro x;kernel_rfl
theorem pz:az Tryz.prog 132:=ax (fn:=Tryz.f132) (by kernel_rfl) rfl (by decide)
theorem pH:aK Tryz.prog 132 iP:=aH (X:=H8) (.cons x8 yh (.nil _)) (by kernel_rfl) iP E0 none (by kernel_rfl) (fun x y h=>(ND x).trans h)
def HW:List (Nat×Ann):=[(100003,⟨[(0,.val tI),(2,.ref 2 0),(3,.val (.int .u64))],[(2,wS)],[],fun _=>0⟩)]
noncomputable def fO:aI:=⟨[.val tI],[.val aj],fun x=>bC x.1⟩
noncomputable def Ld:Cx:=⟨Tryz.prog,[(132,iP)]⟩
theorem PS:∀ x,bf Ld HW none Tryz.f127 fO x=fO.m x:=by intro x;kernel_rfl
theorem jM:az Tryz.prog 127:=ax (fn:=Tryz.f127) (by kernel_rfl) rfl (by decide)
theorem jC:aK Tryz.prog 127 fO:=aH (X:=Ld) (.cons pH pz (.nil _)) (by kernel_rfl) fO HW none (by kernel_rfl) (fun x y h=>(PS x).trans h)
def zB:List (Nat×Ann):=[(3,⟨[(2,.ref 2 0),(3,.ref 3 0),(4,.ref 4 0),(5,.rowR 18),(20,.val (.slice (.int .u32))),(21,.val tI),(22,.val tI)],[(2,jZ),(3,jZ),(4,wS)],[.rowC 18 223 (.int .u32)],aY _⟩),
 (7,⟨[(2,.ref 2 0),(3,.ref 3 0),(4,.ref 4 0),(5,.rowR 18),(6,.val tI),(7,.val (.int .u32)),(8,.val (.int .u64)),(20,.val (.slice (.int .u32))),(21,.val tI),(22,.val tI),(28,.val (.slice (.int .u32))),(29,.val tI),(30,.val tI)],[(2,jZ),(3,jZ),(4,wS)],[.rowC 18 223 (.int .u32)],aY _⟩),
 (200003,⟨[(2,.ref 2 0),(3,.ref 3 0),(4,.ref 4 0),(5,.rowR 18)],[(2,jZ),(3,jZ),(4,wS)],[.rowC 18 223 (.int .u32)],fun _=>0⟩),
 (200007,⟨[(2,.ref 2 0),(3,.ref 3 0),(4,.ref 4 0),(5,.rowR 18),(6,.val tI),(8,.val (.int .u64)),(20,.val (.slice (.int .u32))),(21,.val tI),(22,.val tI)],[(2,jZ),(3,jZ),(4,wS)],[.rowC 18 223 (.int .u32)],fun _=>0⟩)]
noncomputable def fE:aI:=⟨[.val aj,.val aj],[.val aj],fun x=>fe x.1 x.2.1⟩
noncomputable def B9:Cx:=⟨Tryz.prog,[(132,iP)]⟩
theorem IE:∀ x,bf B9 zB none Tryz.f143 fE x=fE.m x:=by intro x;kernel_rfl
theorem nk:az Tryz.prog 143:=ax (fn:=Tryz.f143) (by kernel_rfl) rfl (by decide)
theorem m7:aK Tryz.prog 143 fE:=aH (X:=B9) (.cons pH pz (.nil _)) (by kernel_rfl) fE zB none (by kernel_rfl) (fun x y h=>(IE x).trans h)
def Dt:List (Nat×Ann):=[(3,⟨[(2,.ref 2 0),(3,.ref 3 0),(5,.val tI),(6,.val tI)],[(2,wS),(3,jZ)],[],aY _⟩),
 (200003,⟨[(2,.ref 2 0),(3,.ref 3 0)],[(2,wS),(3,jZ)],[],fun _=>0⟩)]
noncomputable def lZ:aI:=⟨[.val tI],[.val aj],fun x=>oe x.1⟩
noncomputable def FR:Cx:=⟨Tryz.prog,[(127,fO),(143,fE)]⟩
theorem L4:∀ x,bf FR Dt none Tryz.f144 lZ x=lZ.m x:=by intro x;kernel_rfl
theorem AU:az Tryz.prog 144:=ax (fn:=Tryz.f144) (by kernel_rfl) rfl (by decide)
theorem AX:aK Tryz.prog 144 lZ:=aH (X:=FR) (.cons jC jM (.cons m7 nk (.nil _))) (by kernel_rfl) lZ Dt none (by kernel_rfl) (fun x y h=>(L4 x).trans h)
def Gx:List (Nat×Ann):=[(6,⟨[(1,.val (.slice (.int .u32))),(5,.own 223 (.int .u32)),(6,.val (.int .u64)),(20,.val (.slice (.int .u32))),(21,.val tI),(22,.val tI)],[],[],aY _⟩),
 (100002,⟨[(0,.val (.slice (.int .u32))),(1,.val (.slice (.int .u32)))],[],[],fun _=>0⟩),
 (100010,⟨[(1,.val (.slice (.int .u32))),(5,.own 223 (.int .u32)),(6,.val (.int .u64)),(20,.val (.slice (.int .u32))),(21,.val tI),(22,.val tI)],[],[],fun _=>0⟩),
 (200006,⟨[(5,.own 223 (.int .u32)),(6,.val (.int .u64))],[],[],fun _=>0⟩)]
noncomputable def uI:aI:=⟨[.val (.slice (.int .u32)),.val (.slice (.int .u32))],[.row 223 (.int .u32)],fun x=>Bv x.1 x.2.1⟩
noncomputable def JX:Cx:=⟨Tryz.prog,[]⟩
theorem OX:∀ x,bf JX Gx none Tryz.f133 uI x=uI.m x:=by intro x;kernel_rfl
theorem Py:az Tryz.prog 133:=ax (fn:=Tryz.f133) (by kernel_rfl) rfl (by decide)
theorem P8:aK Tryz.prog 133 uI:=aH (X:=JX) (.nil _) (by kernel_rfl) uI Gx none (by kernel_rfl) (fun x y h=>(OX x).trans h)
def Dr:List (Nat×Ann):=[(6,⟨[(1,.val (.slice (.int .u32))),(5,.own 223 (.int .u32)),(6,.val (.int .u64)),(20,.val (.slice (.int .u32))),(21,.val tI),(22,.val tI)],[],[],aY _⟩),
 (100002,⟨[(0,.val (.slice (.int .u32))),(1,.val (.slice (.int .u32)))],[],[],fun _=>0⟩),
 (100010,⟨[(1,.val (.slice (.int .u32))),(5,.own 223 (.int .u32)),(6,.val (.int .u64)),(20,.val (.slice (.int .u32))),(21,.val tI),(22,.val tI)],[],[],fun _=>0⟩),
 (200006,⟨[(5,.own 223 (.int .u32)),(6,.val (.int .u64))],[],[],fun _=>0⟩)]
noncomputable def rA:aI:=⟨[.val (.slice (.int .u32)),.val (.slice (.int .u32))],[.val (.slice (.int .u32))],fun x=>Fc x.1 x.2.1⟩
noncomputable def Gf:Cx:=⟨Tryz.prog,[]⟩
theorem M4:∀ x,bf Gf Dr none Tryz.f133 rA x=rA.m x:=by intro x;kernel_rfl
theorem NM:az Tryz.prog 133:=ax (fn:=Tryz.f133) (by kernel_rfl) rfl (by decide)
theorem Nq:aK Tryz.prog 133 rA:=aH (X:=Gf) (.nil _) (by kernel_rfl) rA Dr none (by kernel_rfl) (fun x y h=>(M4 x).trans h)
def Bz:List (Nat×Ann):=[(4,⟨[(0,.val (.slice (.int .u32))),(1,.val (.slice (.int .u32))),(5,.val tI)],[],[],aY _⟩),
 (200004,⟨[],[],[],fun _=>0⟩)]
noncomputable def mg:aI:=⟨[.val (.slice (.int .u32)),.val (.slice (.int .u32))],[.val tI],fun x=>tu x.1 x.2.1⟩
noncomputable def Ef:Cx:=⟨Tryz.prog,[]⟩
theorem KG:∀ x,bf Ef Bz none Tryz.f134 mg x=mg.m x:=by intro x;kernel_rfl
theorem D6:az Tryz.prog 134:=ax (fn:=Tryz.f134) (by kernel_rfl) rfl (by decide)
theorem DG:aK Tryz.prog 134 mg:=aH (X:=Ef) (.nil _) (by kernel_rfl) mg Bz none (by kernel_rfl) (fun x y h=>(KG x).trans h)
def EL:List (Nat×Ann):=[(4,⟨[(1,.val (.slice (.int .u32))),(5,.own 223 (.int .u32)),(6,.val (.int .u64)),(13,.val (.slice (.int .u32))),(14,.val tI),(15,.val tI)],[],[],aY _⟩),
 (100008,⟨[(1,.val (.slice (.int .u32))),(5,.own 223 (.int .u32)),(9,.val (.int .u64)),(13,.val (.slice (.int .u32))),(14,.val tI),(15,.val tI)],[],[],fun _=>0⟩),
 (200004,⟨[(5,.own 223 (.int .u32))],[],[],fun _=>0⟩)]
noncomputable def pE:aI:=⟨[.val (.slice (.int .u32)),.val (.slice (.int .u32))],[.val (.slice (.int .u32))],fun x=>vF x.1 x.2.1⟩
noncomputable def HV:Cx:=⟨Tryz.prog,[(190,jY)]⟩
theorem NT:∀ x,bf HV EL none Tryz.f135 pE x=pE.m x:=by intro x;kernel_rfl
theorem HX:az Tryz.prog 135:=ax (fn:=Tryz.f135) (by kernel_rfl) rfl (by decide)
theorem HY:aK Tryz.prog 135 pE:=aH (X:=HV) (.cons x8 yh (.nil _)) (by kernel_rfl) pE EL none (by kernel_rfl) (fun x y h=>(NT x).trans h)
def CY:List (Nat×Ann):=[(4,⟨[(2,.ref 2 0),(3,.ref 3 0),(4,.ref 4 0),(5,.ref 5 0),(6,.rowR 12),(7,.val (.slice (.int .u32))),(8,.val tI)],[(2,jZ),(3,jZ),(4,wS),(5,wS)],[.rowC 12 223 (.int .u32)],aY _⟩),
 (200004,⟨[(4,.ref 4 0),(5,.ref 5 0),(6,.rowR 12),(7,.val (.slice (.int .u32)))],[(4,wS),(5,wS)],[.rowC 12 223 (.int .u32)],fun _=>0⟩)]
noncomputable def kU:aI:=⟨[.val aj,.val aj],[.val aj,.val aj],fun x=>rq x.1 x.2.1⟩
noncomputable def EI:Cx:=⟨Tryz.prog,[(132,iP),(133,uI),(134,mg),(135,pE),(190,jY)]⟩
theorem LP:∀ x,bf EI CY none Tryz.f195 kU x=kU.m x:=by intro x;kernel_rfl
theorem z1:az Tryz.prog 195:=ax (fn:=Tryz.f195) (by kernel_rfl) rfl (by decide)
theorem zY:aK Tryz.prog 195 kU:=aH (X:=EI) (.cons pH pz (.cons P8 Py (.cons DG D6 (.cons HY HX (.cons x8 yh (.nil _)))))) (by kernel_rfl) kU CY none (by kernel_rfl) (fun x y h=>(LP x).trans h)
def Aw:List (Nat×Ann):=[]
noncomputable def gP:aI:=⟨[.val aj],[.val tI],fun x=>aB x.1⟩
noncomputable def CQ:Cx:=⟨Tryz.prog,[]⟩
theorem JJ:∀ x,bf CQ Aw none Tryz.f158 gP x=gP.m x:=by intro x;kernel_rfl
theorem qG:az Tryz.prog 158:=ax (fn:=Tryz.f158) (by kernel_rfl) rfl (by decide)
theorem qQ:aK Tryz.prog 158 gP:=aH (X:=CQ) (.nil _) (by kernel_rfl) gP Aw none (by kernel_rfl) (fun x y h=>(JJ x).trans h)
def Ax:List (Nat×Ann):=[]
noncomputable def cz:aI:=⟨[.val aj,.val aj],[.val aj],fun x=>aX x.1 x.2.1⟩
noncomputable def CW:Cx:=⟨Tryz.prog,[(132,iP),(133,rA),(134,mg),(135,pE)]⟩
theorem JG:∀ x,bf CW Ax none Tryz.f71 cz x=cz.m x:=by intro x;kernel_rfl
theorem fV:az Tryz.prog 71:=ax (fn:=Tryz.f71) (by kernel_rfl) rfl (by decide)
theorem fW:aK Tryz.prog 71 cz:=aH (X:=CW) (.cons pH pz (.cons Nq NM (.cons DG D6 (.cons HY HX (.nil _))))) (by kernel_rfl) cz Ax none (by kernel_rfl) (fun x y h=>(JG x).trans h)
def zL:List (Nat×Ann):=[]
noncomputable def iD:aI:=⟨[.val aj],[.val aj],fun x=>aA x.1⟩
noncomputable def B4:Cx:=⟨Tryz.prog,[(132,iP)]⟩
theorem ID:∀ x,bf B4 zL none Tryz.f159 iD x=iD.m x:=by intro x;kernel_rfl
theorem vn:az Tryz.prog 159:=ax (fn:=Tryz.f159) (by kernel_rfl) rfl (by decide)
theorem uE:aK Tryz.prog 159 iD:=aH (X:=B4) (.cons pH pz (.nil _)) (by kernel_rfl) iD zL none (by kernel_rfl) (fun x y h=>(ID x).trans h)
def Ar:List (Nat×Ann):=[]
noncomputable def nR:aI:=⟨[.val aj,.val aj],[.val aj],fun x=>vC x.1 x.2.1⟩
noncomputable def CD:Cx:=⟨Tryz.prog,[(71,cz),(159,iD)]⟩
theorem Ja:∀ x,bf CD Ar none Tryz.f165 nR x=nR.m x:=by intro x;kernel_rfl
theorem KR:az Tryz.prog 165:=ax (fn:=Tryz.f165) (by kernel_rfl) rfl (by decide)
theorem KP:aK Tryz.prog 165 nR:=aH (X:=CD) (.cons fW fV (.cons uE vn (.nil _))) (by kernel_rfl) nR Ar none (by kernel_rfl) (fun x y h=>(Ja x).trans h)
def xq:List (Nat×Ann):=[]
noncomputable def gG:aI:=⟨[.val aj,.val aj],[.val tI],fun x=>kV x.1 x.2.1⟩
noncomputable def zQ:Cx:=⟨Tryz.prog,[(158,gP),(165,nR)]⟩
theorem GH:∀ x,bf zQ xq none Tryz.f116 gG x=gG.m x:=by intro x;kernel_rfl
theorem sP:az Tryz.prog 116:=ax (fn:=Tryz.f116) (by kernel_rfl) rfl (by decide)
theorem si:aK Tryz.prog 116 gG:=aH (X:=zQ) (.cons qQ qG (.cons KP KR (.nil _))) (by kernel_rfl) gG xq none (by kernel_rfl) (fun x y h=>(GH x).trans h)
def BX:List (Nat×Ann):=[]
noncomputable def oR:aI:=⟨[.val aj],[.val .bool],fun x=>fY x.1⟩
noncomputable def El:Cx:=⟨Tryz.prog,[]⟩
theorem Ku:∀ x,bf El BX none Tryz.f196 oR x=oR.m x:=by intro x;kernel_rfl
theorem LR:az Tryz.prog 196:=ax (fn:=Tryz.f196) (by kernel_rfl) rfl (by decide)
theorem Lw:aK Tryz.prog 196 oR:=aH (X:=El) (.nil _) (by kernel_rfl) oR BX none (by kernel_rfl) (fun x y h=>(Ku x).trans h)
def AB:List (Nat×Ann):=[]
noncomputable def kW:aI:=⟨[.val aj,.val aj,.val tI],[.val aj],fun x=>rj x.1 x.2.1 x.2.2.1⟩
noncomputable def CJ:Cx:=⟨Tryz.prog,[(71,cz),(116,gG),(127,fO),(158,gP),(159,iD),(195,kU),(196,oR)]⟩
theorem Jr:∀ x,bf CJ AB none Tryz.f145 kW x=kW.m x:=by intro x;kernel_rfl
theorem CE:az Tryz.prog 145:=ax (fn:=Tryz.f145) (by kernel_rfl) rfl (by decide)
theorem CN:aK Tryz.prog 145 kW:=aH (X:=CJ) (.cons fW fV (.cons si sP (.cons jC jM (.cons qQ qG (.cons uE vn (.cons zY z1 (.cons Lw LR (.nil _)))))))) (by kernel_rfl) kW AB none (by kernel_rfl) (fun x y h=>(Jr x).trans h)
def Ch:List (Nat×Ann):=[(5,⟨[(1,.val tI),(2,.ref 2 0),(6,.val (.int .u64)),(14,.val (.slice (.int .u32))),(15,.val tI),(16,.val tI)],[(2,jZ)],[],aY _⟩),
 (200005,⟨[(1,.val tI),(2,.ref 2 0),(6,.val (.int .u64))],[(2,jZ)],[],fun _=>0⟩)]
noncomputable def iM:aI:=⟨[.val aj,.val tI],[.val tI,.val .bool],fun x=>nF x.1 x.2.1⟩
noncomputable def Dx:Cx:=⟨Tryz.prog,[]⟩
theorem KN:∀ x,bf Dx Ch none Tryz.f137 iM x=iM.m x:=by intro x;kernel_rfl
theorem sk:az Tryz.prog 137:=ax (fn:=Tryz.f137) (by kernel_rfl) rfl (by decide)
theorem sM:aK Tryz.prog 137 iM:=aH (X:=Dx) (.nil _) (by kernel_rfl) iM Ch none (by kernel_rfl) (fun x y h=>(KN x).trans h)
def F5:List (Nat×Ann):=[]
noncomputable def iN:aI:=⟨[.val aj],[.val .bool],fun x=>jr x.1⟩
noncomputable def I8:Cx:=⟨Tryz.prog,[(137,iM)]⟩
theorem OJ:∀ x,bf I8 F5 none Tryz.f74 iN x=iN.m x:=by intro x;kernel_rfl
theorem oS:az Tryz.prog 74:=ax (fn:=Tryz.f74) (by kernel_rfl) rfl (by decide)
theorem oQ:aK Tryz.prog 74 iN:=aH (X:=I8) (.cons sM sk (.nil _)) (by kernel_rfl) iN F5 none (by kernel_rfl) (fun x y h=>(OJ x).trans h)
def Ez:List (Nat×Ann):=[]
noncomputable def td:aI:=⟨[.val bT,.val iS],[.val aj,.val .bool],fun x=>Db x.1 x.2.1⟩
noncomputable def HS:Cx:=⟨Tryz.prog,[(74,iN),(127,fO),(143,fE),(144,lZ),(145,kW)]⟩
theorem NJ:∀ x,bf HS Ez none Tryz.f87 td x=td.m x:=by intro x;kernel_rfl
theorem OH:az Tryz.prog 87:=ax (fn:=Tryz.f87) (by kernel_rfl) rfl (by decide)
theorem OY:aK Tryz.prog 87 td:=aH (X:=HS) (.cons oQ oS (.cons jC jM (.cons m7 nk (.cons AX AU (.cons CN CE (.nil _)))))) (by kernel_rfl) td Ez none (by kernel_rfl) (fun x y h=>(NJ x).trans h)
def BF:List (Nat×Ann):=[]
noncomputable def jX:aI:=⟨[.val aQ,.val tI],[.val aj],fun x=>nH x.1 x.2.1⟩
noncomputable def Ds:Cx:=⟨Tryz.prog,[(127,fO),(143,fE),(144,lZ)]⟩
theorem KM:∀ x,bf Ds BF none Tryz.f88 jX x=jX.m x:=by intro x;kernel_rfl
theorem ym:az Tryz.prog 88:=ax (fn:=Tryz.f88) (by kernel_rfl) rfl (by decide)
theorem yf:aK Tryz.prog 88 jX:=aH (X:=Ds) (.cons jC jM (.cons m7 nk (.cons AX AU (.nil _)))) (by kernel_rfl) jX BF none (by kernel_rfl) (fun x y h=>(KM x).trans h)
def F4:List (Nat×Ann):=[]
noncomputable def oB:aI:=⟨[.val bT,.val aj,.val aQ],[.val aj],fun x=>pK x.1 x.2.1 x.2.2.1⟩
noncomputable def I2:Cx:=⟨Tryz.prog,[(127,fO),(143,fE),(144,lZ),(145,kW)]⟩
theorem OQ:∀ x,bf I2 F4 none Tryz.f89 oB x=oB.m x:=by intro x;kernel_rfl
theorem Ec:az Tryz.prog 89:=ax (fn:=Tryz.f89) (by kernel_rfl) rfl (by decide)
theorem DM:aK Tryz.prog 89 oB:=aH (X:=I2) (.cons jC jM (.cons m7 nk (.cons AX AU (.cons CN CE (.nil _))))) (by kernel_rfl) oB F4 none (by kernel_rfl) (fun x y h=>(OQ x).trans h)
def Il:List (Nat×Ann):=[(4,⟨[(2,.ref 2 0),(4,.ref 4 0),(6,.ref 6 0),(7,.val .bool),(8,.ref 8 0),(20,.val (.slice gv)),(21,.val tI),(22,.val tI)],[(2,FF),(4,wS),(6,jZ),(8,jZ)],[],aY _⟩),
 (100008,⟨[(2,.ref 2 0),(4,.ref 4 0),(6,.ref 6 0),(7,.val .bool),(8,.ref 8 0),(11,.ref 11 0),(20,.val (.slice gv)),(21,.val tI),(22,.val tI)],[(2,FF),(4,wS),(6,jZ),(8,jZ),(11,jZ)],[],fun _=>0⟩),
 (200004,⟨[(4,.ref 4 0),(7,.val .bool),(8,.ref 8 0)],[(4,wS),(8,jZ)],[],fun _=>0⟩)]
noncomputable def xj:aI:=⟨[.val bT,.val iS],[.val aj,.val .bool],fun x=>Hl x.1 x.2.1⟩
noncomputable def Lg:Cx:=⟨Tryz.prog,[(71,cz),(74,iN),(87,td),(88,jX),(89,oB)]⟩
theorem Pt:∀ x,bf Lg Il none Tryz.f36 xj x=xj.m x:=by intro x;kernel_rfl
theorem Q6:az Tryz.prog 36:=ax (fn:=Tryz.f36) (by kernel_rfl) rfl (by decide)
theorem QI:aK Tryz.prog 36 xj:=aH (X:=Lg) (.cons fW fV (.cons oQ oS (.cons OY OH (.cons yf ym (.cons DM Ec (.nil _)))))) (by kernel_rfl) xj Il none (by kernel_rfl) (fun x y h=>(Pt x).trans h)
def uq:List (Nat×Ann):=[]
noncomputable def iZ:aI:=⟨[.val aj],[.val .bool],fun x=>sw x.1⟩
noncomputable def wm:Cx:=⟨Tryz.prog,[(74,iN)]⟩
theorem DI:∀ x,bf wm uq none Tryz.f125 iZ x=iZ.m x:=by intro x;kernel_rfl
theorem Et:az Tryz.prog 125:=ax (fn:=Tryz.f125) (by kernel_rfl) rfl (by decide)
theorem Em:aK Tryz.prog 125 iZ:=aH (X:=wm) (.cons oQ oS (.nil _)) (by kernel_rfl) iZ uq none (by kernel_rfl) (fun x y h=>(DI x).trans h)
def vZ:List (Nat×Ann):=[]
noncomputable def j8:aI:=⟨[.val aj],[.val .bool],fun x=>uY x.1⟩
noncomputable def yO:Cx:=⟨Tryz.prog,[(74,iN)]⟩
theorem Fo:∀ x,bf yO vZ none Tryz.f130 j8 x=j8.m x:=by intro x;kernel_rfl
theorem F0:az Tryz.prog 130:=ax (fn:=Tryz.f130) (by kernel_rfl) rfl (by decide)
theorem Gc:aK Tryz.prog 130 j8:=aH (X:=yO) (.cons oQ oS (.nil _)) (by kernel_rfl) j8 vZ none (by kernel_rfl) (fun x y h=>(Fo x).trans h)
def yD:List (Nat×Ann):=[]
noncomputable def lJ:aI:=⟨[.val aj],[.val .bool],fun x=>ya x.1⟩
noncomputable def Ah:Cx:=⟨Tryz.prog,[(74,iN)]⟩
theorem Hw:∀ x,bf Ah yD none Tryz.f131 lJ x=lJ.m x:=by intro x;kernel_rfl
theorem Iu:az Tryz.prog 131:=ax (fn:=Tryz.f131) (by kernel_rfl) rfl (by decide)
theorem IJ:aK Tryz.prog 131 lJ:=aH (X:=Ah) (.cons oQ oS (.nil _)) (by kernel_rfl) lJ yD none (by kernel_rfl) (fun x y h=>(Hw x).trans h)
def uJ:List (Nat×Ann):=[]
noncomputable def jI:aI:=⟨[.val aj],[.val .bool],fun x=>tQ x.1⟩
noncomputable def xL:Cx:=⟨Tryz.prog,[(74,iN)]⟩
theorem Eo:∀ x,bf xL uJ none Tryz.f73 jI x=jI.m x:=by intro x;kernel_rfl
theorem Fu:az Tryz.prog 73:=ax (fn:=Tryz.f73) (by kernel_rfl) rfl (by decide)
theorem FD:aK Tryz.prog 73 jI:=aH (X:=xL) (.cons oQ oS (.nil _)) (by kernel_rfl) jI uJ none (by kernel_rfl) (fun x y h=>(Eo x).trans h)
def o4:List (Nat×Ann):=[(2,⟨[(0,.val (.slice aj)),(1,.val (.clo 125 .unit)),(7,.val tI),(8,.val tI)],[],[],aY _⟩),
 (200002,⟨[],[],[],fun _=>0⟩)]
noncomputable def fR:aI:=⟨[.val (.slice aj),.val (.clo 125 .unit)],[.val tI],fun x=>nD x.1 x.2.1⟩
noncomputable def qz:Cx:=⟨Tryz.prog,[(125,iZ)]⟩
theorem zM:∀ x,bf qz o4 none Tryz.f136 fR x=fR.m x:=by intro x;kernel_rfl
theorem Ad:az Tryz.prog 136:=ax (fn:=Tryz.f136) (by kernel_rfl) rfl (by decide)
theorem Af:aK Tryz.prog 136 fR:=aH (X:=qz) (.cons Em Et (.nil _)) (by kernel_rfl) fR o4 none (by kernel_rfl) (fun x y h=>(zM x).trans h)
def oc:List (Nat×Ann):=[(2,⟨[(0,.val (.slice aj)),(1,.val (.clo 130 .unit)),(7,.val tI),(8,.val tI)],[],[],aY _⟩),
 (200002,⟨[],[],[],fun _=>0⟩)]
noncomputable def eH:aI:=⟨[.val (.slice aj),.val (.clo 130 .unit)],[.val tI],fun x=>mj x.1 x.2.1⟩
noncomputable def o7:Cx:=⟨Tryz.prog,[(130,j8)]⟩
theorem yo:∀ x,bf o7 oc none Tryz.f136 eH x=eH.m x:=by intro x;kernel_rfl
theorem yY:az Tryz.prog 136:=ax (fn:=Tryz.f136) (by kernel_rfl) rfl (by decide)
theorem yX:aK Tryz.prog 136 eH:=aH (X:=o7) (.cons Gc F0 (.nil _)) (by kernel_rfl) eH oc none (by kernel_rfl) (fun x y h=>(yo x).trans h)
def om:List (Nat×Ann):=[(2,⟨[(0,.val (.slice aj)),(1,.val (.clo 131 .unit)),(7,.val tI),(8,.val tI)],[],[],aY _⟩),
 (200002,⟨[],[],[],fun _=>0⟩)]
noncomputable def eS:aI:=⟨[.val (.slice aj),.val (.clo 131 .unit)],[.val tI],fun x=>l7 x.1 x.2.1⟩
noncomputable def o9:Cx:=⟨Tryz.prog,[(131,lJ)]⟩
theorem yq:∀ x,bf o9 om none Tryz.f136 eS x=eS.m x:=by intro x;kernel_rfl
theorem ze:az Tryz.prog 136:=ax (fn:=Tryz.f136) (by kernel_rfl) rfl (by decide)
theorem yV:aK Tryz.prog 136 eS:=aH (X:=o9) (.cons IJ Iu (.nil _)) (by kernel_rfl) eS om none (by kernel_rfl) (fun x y h=>(yq x).trans h)
def oa:List (Nat×Ann):=[(2,⟨[(0,.val (.slice aj)),(1,.val (.clo 73 .unit)),(7,.val tI),(8,.val tI)],[],[],aY _⟩),
 (200002,⟨[],[],[],fun _=>0⟩)]
noncomputable def eG:aI:=⟨[.val (.slice aj),.val (.clo 73 .unit)],[.val tI],fun x=>mb x.1 x.2.1⟩
noncomputable def o3:Cx:=⟨Tryz.prog,[(73,jI)]⟩
theorem x6:∀ x,bf o3 oa none Tryz.f136 eG x=eG.m x:=by intro x;kernel_rfl
theorem zb:az Tryz.prog 136:=ax (fn:=Tryz.f136) (by kernel_rfl) rfl (by decide)
theorem yW:aK Tryz.prog 136 eG:=aH (X:=o3) (.cons FD Fu (.nil _)) (by kernel_rfl) eG oa none (by kernel_rfl) (fun x y h=>(x6 x).trans h)
def nQ:List (Nat×Ann):=[]
noncomputable def dX:aI:=⟨[.val (.slice aj),.val (.clo 125 .unit)],[.val .bool],fun x=>iC x.1 x.2.1⟩
noncomputable def ox:Cx:=⟨Tryz.prog,[(136,fR)]⟩
theorem xb:∀ x,bf ox nQ none Tryz.f72 dX x=dX.m x:=by intro x;kernel_rfl
theorem yb:az Tryz.prog 72:=ax (fn:=Tryz.f72) (by kernel_rfl) rfl (by decide)
theorem yd:aK Tryz.prog 72 dX:=aH (X:=ox) (.cons Af Ad (.nil _)) (by kernel_rfl) dX nQ none (by kernel_rfl) (fun x y h=>(xb x).trans h)
def mQ:List (Nat×Ann):=[]
noncomputable def dA:aI:=⟨[.val (.slice aj),.val (.clo 130 .unit)],[.val .bool],fun x=>bO x.1 x.2.1⟩
noncomputable def nS:Cx:=⟨Tryz.prog,[(136,eH)]⟩
theorem vU:∀ x,bf nS mQ none Tryz.f72 dA x=dA.m x:=by intro x;kernel_rfl
theorem wQ:az Tryz.prog 72:=ax (fn:=Tryz.f72) (by kernel_rfl) rfl (by decide)
theorem wX:aK Tryz.prog 72 dA:=aH (X:=nS) (.cons yX yY (.nil _)) (by kernel_rfl) dA mQ none (by kernel_rfl) (fun x y h=>(vU x).trans h)
def mK:List (Nat×Ann):=[]
noncomputable def dn:aI:=⟨[.val (.slice aj),.val (.clo 131 .unit)],[.val .bool],fun x=>gL x.1 x.2.1⟩
noncomputable def nX:Cx:=⟨Tryz.prog,[(136,eS)]⟩
theorem vJ:∀ x,bf nX mK none Tryz.f72 dn x=dn.m x:=by intro x;kernel_rfl
theorem wu:az Tryz.prog 72:=ax (fn:=Tryz.f72) (by kernel_rfl) rfl (by decide)
theorem wK:aK Tryz.prog 72 dn:=aH (X:=nX) (.cons yV ze (.nil _)) (by kernel_rfl) dn mK none (by kernel_rfl) (fun x y h=>(vJ x).trans h)
def mW:List (Nat×Ann):=[]
noncomputable def dw:aI:=⟨[.val (.slice aj),.val (.clo 73 .unit)],[.val .bool],fun x=>gM x.1 x.2.1⟩
noncomputable def nM:Cx:=⟨Tryz.prog,[(136,eG)]⟩
theorem vL:∀ x,bf nM mW none Tryz.f72 dw x=dw.m x:=by intro x;kernel_rfl
theorem wC:az Tryz.prog 72:=ax (fn:=Tryz.f72) (by kernel_rfl) rfl (by decide)
theorem wz:aK Tryz.prog 72 dw:=aH (X:=nM) (.cons yW zb (.nil _)) (by kernel_rfl) dw mW none (by kernel_rfl) (fun x y h=>(vL x).trans h)
def rW:List (Nat×Ann):=[]
noncomputable def gV:aI:=⟨[.val (.slice aj)],[.row 135 aj],fun x=>mH x.1⟩
noncomputable def uc:Cx:=⟨Tryz.prog,[]⟩
theorem Cq:∀ x,bf uc rW none Tryz.f126 gV x=gV.m x:=by intro x;kernel_rfl
theorem C2:az Tryz.prog 126:=ax (fn:=Tryz.f126) (by kernel_rfl) rfl (by decide)
theorem Da:aK Tryz.prog 126 gV:=aH (X:=uc) (.nil _) (by kernel_rfl) gV rW none (by kernel_rfl) (fun x y h=>(Cq x).trans h)
def we:List (Nat×Ann):=[(4,⟨[(0,.ref 2000 0),(30,.val (.slice iS)),(31,.val tI),(32,.val tI)],[(2000,Vk)],[.rowC 19 135 aj,.rowC 21 4 .bool,.rowC 10250004 135 aj,.rowC 10250006 135 aj,.rowC 10250008 135 aj],aY _⟩),
 (200004,⟨[(0,.ref 2000 0)],[(2000,Vk)],[.rowC 19 135 aj,.rowC 21 4 .bool,.rowC 10250004 135 aj,.rowC 10250006 135 aj,.rowC 10250008 135 aj],fun _=>0⟩)]
noncomputable def kr:aI:=⟨[.box [.val bT,.row 135 aj,.val (.slice aj),.row 135 aj,.row 186 cK,.row 135 aj,.row 4 .bool,.row 135 aj]],[.val tI],fun x=>m6 x.1⟩
noncomputable def yL:Cx:=⟨Tryz.prog,[(36,xj),(71,cz),(72,dX),(124,me),(126,gV)]⟩
theorem Fw:∀ x,bf yL we none Tryz.f67 kr x=kr.m x:=by intro x;kernel_rfl
theorem Gq:az Tryz.prog 67:=ax (fn:=Tryz.f67) (by kernel_rfl) rfl (by decide)
theorem Gm:aK Tryz.prog 67 kr:=aH (X:=yL) (.cons QI Q6 (.cons fW fV (.cons yd yb (.cons AN A8 (.cons Da C2 (.nil _)))))) (by kernel_rfl) kr we none (by kernel_rfl) (fun x y h=>(Fw x).trans h)
def yC:List (Nat×Ann):=[]
noncomputable def jx:aI:=⟨[.box [.val bT,.row 135 aj,.val (.slice aj),.row 135 aj,.row 186 cK,.row 135 aj,.row 4 .bool,.row 135 aj],.val tI,.val aj],[],fun x=>fM x.1 x.2.1 x.2.2.1⟩
noncomputable def Ap:Cx:=⟨Tryz.prog,[(71,cz)]⟩
theorem GS:∀ x,bf Ap yC none Tryz.f128 jx x=jx.m x:=by intro x;kernel_rfl
theorem AD:az Tryz.prog 128:=ax (fn:=Tryz.f128) (by kernel_rfl) rfl (by decide)
theorem Ak:aK Tryz.prog 128 jx:=aH (X:=Ap) (.cons fW fV (.nil _)) (by kernel_rfl) jx yC none (by kernel_rfl) (fun x y h=>(GS x).trans h)
def Bw:List (Nat×Ann):=[]
noncomputable def oK:aI:=⟨[.val aj],[.val aj],fun x=>xN x.1⟩
noncomputable def Dq:Cx:=⟨Tryz.prog,[(132,iP)]⟩
theorem Ky:∀ x,bf Dq Bw none Tryz.f186 oK x=oK.m x:=by intro x;kernel_rfl
theorem LW:az Tryz.prog 186:=ax (fn:=Tryz.f186) (by kernel_rfl) rfl (by decide)
theorem LF:aK Tryz.prog 186 oK:=aH (X:=Dq) (.cons pH pz (.nil _)) (by kernel_rfl) oK Bw none (by kernel_rfl) (fun x y h=>(Ky x).trans h)
def uG:List (Nat×Ann):=[]
noncomputable def jJ:aI:=⟨[.val tI],[.val .bool],fun x=>tU x.1⟩
noncomputable def xp:Cx:=⟨Tryz.prog,[]⟩
theorem Ew:∀ x,bf xp uG none Tryz.f188 jJ x=jJ.m x:=by intro x;kernel_rfl
theorem FI:az Tryz.prog 188:=ax (fn:=Tryz.f188) (by kernel_rfl) rfl (by decide)
theorem Fy:aK Tryz.prog 188 jJ:=aH (X:=xp) (.nil _) (by kernel_rfl) jJ uG none (by kernel_rfl) (fun x y h=>(Ew x).trans h)
def um:List (Nat×Ann):=[(2,⟨[(0,.val (.slice tI)),(1,.val (.clo 188 .unit)),(7,.val tI),(8,.val tI)],[],[],aY _⟩),
 (200002,⟨[],[],[],fun _=>0⟩)]
noncomputable def jc:aI:=⟨[.val (.slice tI),.val (.clo 188 .unit)],[.val tI],fun x=>sE x.1 x.2.1⟩
noncomputable def wk:Cx:=⟨Tryz.prog,[(188,jJ)]⟩
theorem Eg:∀ x,bf wk um none Tryz.f217 jc x=jc.m x:=by intro x;kernel_rfl
theorem Ey:az Tryz.prog 217:=ax (fn:=Tryz.f217) (by kernel_rfl) rfl (by decide)
theorem Es:aK Tryz.prog 217 jc:=aH (X:=wk) (.cons Fy FI (.nil _)) (by kernel_rfl) jc um none (by kernel_rfl) (fun x y h=>(Eg x).trans h)
def rJ:List (Nat×Ann):=[]
noncomputable def gK:aI:=⟨[.val (.slice tI),.val (.clo 188 .unit)],[.val .bool],fun x=>jb x.1 x.2.1⟩
noncomputable def th:Cx:=⟨Tryz.prog,[(217,jc)]⟩
theorem BA:∀ x,bf th rJ none Tryz.f187 gK x=gK.m x:=by intro x;kernel_rfl
theorem Co:az Tryz.prog 187:=ax (fn:=Tryz.f187) (by kernel_rfl) rfl (by decide)
theorem Cn:aK Tryz.prog 187 gK:=aH (X:=th) (.cons Es Ey (.nil _)) (by kernel_rfl) gK rJ none (by kernel_rfl) (fun x y h=>(BA x).trans h)
def DK:List (Nat×Ann):=[]
noncomputable def lW:aI:=⟨[.val aj,.val tI],[.val aQ,.val tI],fun x=>qs x.1 x.2.1⟩
noncomputable def FW:Cx:=⟨Tryz.prog,[(137,iM)]⟩
theorem Ml:∀ x,bf FW DK none Tryz.f86 lW x=lW.m x:=by intro x;kernel_rfl
theorem AT:az Tryz.prog 86:=ax (fn:=Tryz.f86) (by kernel_rfl) rfl (by decide)
theorem AQ:aK Tryz.prog 86 lW:=aH (X:=FW) (.cons sM sk (.nil _)) (by kernel_rfl) lW DK none (by kernel_rfl) (fun x y h=>(Ml x).trans h)
def uQ:List (Nat×Ann):=[(7,⟨[(3,.val tI),(12,.val (.slice tI)),(13,.val tI),(14,.val tI)],[],[],aY _⟩),
 (200007,⟨[(3,.val tI)],[],[],fun _=>0⟩)]
noncomputable def jE:aI:=⟨[.val (.slice tI)],[.val tI],fun x=>oZ x.1⟩
noncomputable def xo:Cx:=⟨Tryz.prog,[(39,eY)]⟩
theorem Eu:∀ x,bf xo uQ none Tryz.f218 jE x=jE.m x:=by intro x;kernel_rfl
theorem FK:az Tryz.prog 218:=ax (fn:=Tryz.f218) (by kernel_rfl) rfl (by decide)
theorem Fp:aK Tryz.prog 218 jE:=aH (X:=xo) (.cons kC j6 (.nil _)) (by kernel_rfl) jE uQ none (by kernel_rfl) (fun x y h=>(Eu x).trans h)
def zy:List (Nat×Ann):=[]
noncomputable def j9:aI:=⟨[.val aU,.val aU],[.val tI],fun x=>kN x.1 x.2.1⟩
noncomputable def BV:Cx:=⟨Tryz.prog,[(116,gG)]⟩
theorem IF:∀ x,bf BV zy none Tryz.f220 j9 x=j9.m x:=by intro x;kernel_rfl
theorem B0:az Tryz.prog 220:=ax (fn:=Tryz.f220) (by kernel_rfl) rfl (by decide)
theorem Bt:aK Tryz.prog 220 j9:=aH (X:=BV) (.cons si sP (.nil _)) (by kernel_rfl) j9 zy none (by kernel_rfl) (fun x y h=>(IF x).trans h)
def jw:List (Nat×Ann):=[(1,⟨[(0,.rowR 10250000),(1,.val tI),(2,.val tI),(3,.val (.clo 220 .unit)),(8,.val tI)],[],[.rowC 10250000 261 aU],aY _⟩),
 (4,⟨[(0,.rowR 10250000),(1,.val tI),(2,.val tI),(3,.val (.clo 220 .unit)),(8,.val tI),(9,.val tI)],[],[.rowC 10250000 261 aU],aY _⟩),
 (200001,⟨[],[],[.rowC 10250000 261 aU],fun _=>0⟩),
 (200004,⟨[(0,.rowR 10250000),(1,.val tI),(2,.val tI),(3,.val (.clo 220 .unit)),(8,.val tI)],[],[.rowC 10250000 261 aU],fun _=>0⟩)]
noncomputable def b8:aI:=⟨[.mrow 261 aU,.val tI,.val tI,.val (.clo 220 .unit)],[],fun x=>cy x.1 x.2.1 x.2.2.1 x.2.2.2.1⟩
noncomputable def jU:Cx:=⟨Tryz.prog,[(220,j9)]⟩
theorem qv:∀ x,bf jU jw none Tryz.f241 b8 x=b8.m x:=by intro x;kernel_rfl
theorem qA:az Tryz.prog 241:=ax (fn:=Tryz.f241) (by kernel_rfl) rfl (by decide)
theorem qB:aK Tryz.prog 241 b8:=aH (X:=jU) (.cons Bt B0 (.nil _)) (by kernel_rfl) b8 jw none (by kernel_rfl) (fun x y h=>(qv x).trans h)
def kJ:List (Nat×Ann):=[(1,⟨[(0,.rowR 10250000),(1,.val tI),(2,.val tI),(3,.val tI),(10,.val tI)],[],[.rowC 10250000 261 aU],aY _⟩),
 (200001,⟨[],[],[.rowC 10250000 261 aU],fun _=>0⟩)]
noncomputable def cB:aI:=⟨[.mrow 261 aU,.val tI,.val tI,.val tI,.val (.clo 220 .unit)],[],fun x=>cn x.1 x.2.1 x.2.2.1 x.2.2.2.1 x.2.2.2.2.1⟩
noncomputable def k8:Cx:=⟨Tryz.prog,[]⟩
theorem sG:∀ x,bf k8 kJ none Tryz.f244 cB x=cB.m x:=by intro x;kernel_rfl
theorem tg:az Tryz.prog 244:=ax (fn:=Tryz.f244) (by kernel_rfl) rfl (by decide)
theorem sV:aK Tryz.prog 244 cB:=aH (X:=k8) (.nil _) (by kernel_rfl) cB kJ none (by kernel_rfl) (fun x y h=>(sG x).trans h)
def lK:List (Nat×Ann):=[(2,⟨[(0,.rowR 10250000),(2,.val tI),(4,.val (.clo 220 .unit)),(10,.val tI),(11,.val tI)],[],[.rowC 10250000 261 aU],aY _⟩),
 (200002,⟨[(0,.rowR 10250000),(2,.val tI),(4,.val (.clo 220 .unit)),(10,.val tI)],[],[.rowC 10250000 261 aU],fun _=>0⟩)]
noncomputable def cS:aI:=⟨[.mrow 261 aU,.val tI,.val tI,.val tI,.val (.clo 220 .unit)],[],fun x=>gw x.1 x.2.1 x.2.2.1 x.2.2.2.1 x.2.2.2.2.1⟩
noncomputable def ni:Cx:=⟨Tryz.prog,[(244,cB)]⟩
theorem uB:∀ x,bf ni lK none Tryz.f243 cS x=cS.m x:=by intro x;kernel_rfl
theorem u7:az Tryz.prog 243:=ax (fn:=Tryz.f243) (by kernel_rfl) rfl (by decide)
theorem vp:aK Tryz.prog 243 cS:=aH (X:=ni) (.cons sV tg (.nil _)) (by kernel_rfl) cS lK none (by kernel_rfl) (fun x y h=>(uB x).trans h)
def kL:List (Nat×Ann):=[(3,⟨[(0,.rowR 10250000),(1,.val tI),(4,.val (.clo 220 .unit)),(10,.val tI),(11,.val tI)],[],[.rowC 10250000 261 aU],aY _⟩),
 (9,⟨[(0,.rowR 10250000),(10,.val tI),(13,.val tI)],[],[.rowC 10250000 261 aU],aY _⟩),
 (15,⟨[(0,.rowR 10250000),(2,.val tI),(4,.val (.clo 220 .unit)),(14,.val tI),(15,.val tI)],[],[.rowC 10250000 261 aU],aY _⟩),
 (21,⟨[(0,.rowR 10250000),(14,.val tI),(17,.val tI)],[],[.rowC 10250000 261 aU],aY _⟩),
 (33,⟨[(0,.rowR 10250000),(1,.val tI),(2,.val tI),(3,.val tI),(4,.val (.clo 220 .unit)),(18,.val tI),(19,.val tI),(20,.val tI),(21,.val tI),(22,.val tI)],[],[.rowC 10250000 261 aU],aY _⟩),
 (100030,⟨[(0,.rowR 10250000),(1,.val tI),(2,.val tI),(3,.val tI),(4,.val (.clo 220 .unit)),(18,.val tI),(19,.val tI),(20,.val tI),(21,.val tI)],[],[.rowC 10250000 261 aU],fun _=>0⟩),
 (100040,⟨[(0,.rowR 10250000),(1,.val tI),(3,.val tI),(4,.val (.clo 220 .unit)),(18,.val tI),(20,.val tI),(24,.val tI)],[],[.rowC 10250000 261 aU],fun _=>0⟩),
 (100042,⟨[(0,.rowR 10250000),(3,.val tI),(4,.val (.clo 220 .unit)),(18,.val tI),(24,.val tI)],[],[.rowC 10250000 261 aU],fun _=>0⟩),
 (200003,⟨[(0,.rowR 10250000),(1,.val tI),(10,.val tI)],[],[.rowC 10250000 261 aU],fun _=>0⟩),
 (200009,⟨[],[],[.rowC 10250000 261 aU],fun _=>0⟩),
 (200015,⟨[(0,.rowR 10250000),(2,.val tI),(14,.val tI)],[],[.rowC 10250000 261 aU],fun _=>0⟩),
 (200021,⟨[],[],[.rowC 10250000 261 aU],fun _=>0⟩),
 (200033,⟨[(0,.rowR 10250000),(1,.val tI),(2,.val tI),(3,.val tI),(4,.val (.clo 220 .unit)),(18,.val tI),(19,.val tI),(20,.val tI)],[],[.rowC 10250000 261 aU],fun _=>0⟩)]
def bG:List PM:=[.mrow 261 aU,.val tI,.val tI,.val tI,.val (.clo 220 .unit)]
def bX:List RM:=[]
noncomputable def lg:List (Nat×aI):=[(220,j9),(243,cS)]
noncomputable def lQ:aI:=⟨bG,bX,fun x=>dc x.1 x.2.1 x.2.2.1 x.2.2.2.1 x.2.2.2.2.1⟩
theorem sX:∀ (self:gq bG→Option (dx bG bX)) (x:gq bG),bf ⟨Tryz.prog,(242,⟨bG,bX,self⟩)::lg⟩ kL none Tryz.f242 ⟨bG,bX,fun x=>bR self x.1 x.2.1 x.2.2.1 x.2.2.2.1 x.2.2.2.2.1⟩ x=bR self x.1 x.2.1 x.2.2.1 x.2.2.2.1 x.2.2.2.2.1:=by intro self x;kernel_rfl
theorem lR:az Tryz.prog 242:=ax (fn:=Tryz.f242) (by kernel_rfl) rfl (by decide)
theorem tV:aK Tryz.prog 242 lQ:=La (ps:=bG) (rs:=bX) (m:=fun n x=>AV (fun self x=>bR self x.1 x.2.1 x.2.2.1 x.2.2.2.1 x.2.2.2.2.1) n x) (Hf (P:=Tryz.prog) (specs:=lg) (ps:=bG) (rs:=bX) (.cons Bt B0 (.cons vp u7 (.nil _))) (by kernel_rfl) (fun self x=>bR self x.1 x.2.1 x.2.2.1 x.2.2.2.1 x.2.2.2.2.1) kL none (by kernel_rfl) lR sX) (fun x=>gF x.1 x.2.1 x.2.2.1 x.2.2.2.1 x.2.2.2.2.1)
def lU:List (Nat×Ann):=[(2,⟨[(0,.rowR 10250000),(1,.val tI),(2,.val (.clo 220 .unit)),(6,.val tI),(7,.val tI),(8,.val tI)],[],[.rowC 10250000 261 aU],aY _⟩),
 (7,⟨[(0,.rowR 10250000),(1,.val tI),(2,.val (.clo 220 .unit)),(6,.val tI)],[],[.rowC 10250000 261 aU],aY _⟩),
 (9,⟨[(0,.rowR 10250000),(1,.val tI),(2,.val (.clo 220 .unit)),(6,.val tI),(7,.val tI),(8,.val tI)],[],[.rowC 10250000 261 aU],aY _⟩),
 (200002,⟨[(0,.rowR 10250000),(1,.val tI),(2,.val (.clo 220 .unit)),(6,.val tI),(7,.val tI)],[],[.rowC 10250000 261 aU],fun _=>0⟩),
 (200007,⟨[],[],[.rowC 10250000 261 aU],fun _=>0⟩),
 (200009,⟨[(0,.rowR 10250000),(1,.val tI),(2,.val (.clo 220 .unit)),(6,.val tI),(7,.val tI)],[],[.rowC 10250000 261 aU],fun _=>0⟩)]
noncomputable def cT:aI:=⟨[.mrow 261 aU,.val tI,.val (.clo 220 .unit)],[],fun x=>jL x.1 x.2.1 x.2.2.1⟩
noncomputable def mL:Cx:=⟨Tryz.prog,[(241,b8),(242,lQ)]⟩
theorem uD:∀ x,bf mL lU none Tryz.f234 cT x=cT.m x:=by intro x;kernel_rfl
theorem uN:az Tryz.prog 234:=ax (fn:=Tryz.f234) (by kernel_rfl) rfl (by decide)
theorem vw:aK Tryz.prog 234 cT:=aH (X:=mL) (.cons qB qA (.cons tV lR (.nil _))) (by kernel_rfl) cT lU none (by kernel_rfl) (fun x y h=>(uD x).trans h)
def ld:List (Nat×Ann):=[]
noncomputable def cN:aI:=⟨[.mrow 261 aU,.val (.clo 220 .unit)],[],fun x=>dz x.1 x.2.1⟩
noncomputable def mu:Cx:=⟨Tryz.prog,[(234,cT)]⟩
theorem tL:∀ x,bf mu ld none Tryz.f219 cN x=cN.m x:=by intro x;kernel_rfl
theorem uw:az Tryz.prog 219:=ax (fn:=Tryz.f219) (by kernel_rfl) rfl (by decide)
theorem uA:aK Tryz.prog 219 cN:=aH (X:=mu) (.cons vw uN (.nil _)) (by kernel_rfl) cN ld none (by kernel_rfl) (fun x y h=>(tL x).trans h)
def BL:List (Nat×Ann):=[(9,⟨[(1,.val (.slice tI)),(2,.ref 2 0),(8,.val tI),(33,.val (.slice tI)),(34,.val tI),(35,.val tI)],[(2,Ea)],[],aY _⟩),
 (17,⟨[(2,.ref 2 0),(8,.val tI),(11,.val tI),(12,.val tI),(13,.own 261 aU),(50,.val (.slice tI)),(51,.val tI),(52,.val tI)],[(2,Ea)],[],aY _⟩),
 (27,⟨[(2,.ref 2 0),(12,.val tI),(20,.rowR 88),(89,.own 261 aU),(90,.val tI),(91,.val tI)],[(2,Ea)],[.rowC 88 33 aQ],aY _⟩),
 (100030,⟨[(2,.ref 2 0),(12,.val tI),(20,.rowR 88),(22,.ref 22 0),(89,.own 261 aU),(90,.val tI),(91,.val tI)],[(2,Ea),(22,[.val tI,.val tI,.val .bool,.val (.slice (.int .u32))])],[.rowC 88 33 aQ],fun _=>0⟩),
 (100032,⟨[(2,.ref 2 0),(12,.val tI),(20,.rowR 88),(22,.ref 22 0),(89,.own 261 aU),(90,.val tI),(91,.val tI)],[(2,Ea),(22,[.val tI,.val tI,.val .bool,.val (.slice (.int .u32))])],[.rowC 88 33 aQ],fun _=>0⟩),
 (200009,⟨[(1,.val (.slice tI)),(2,.ref 2 0),(8,.val tI)],[(2,Ea)],[],fun _=>0⟩),
 (200017,⟨[(2,.ref 2 0),(12,.val tI),(13,.own 261 aU)],[(2,Ea)],[],fun _=>0⟩),
 (200027,⟨[(20,.rowR 88)],[],[.rowC 88 33 aQ],fun _=>0⟩)]
noncomputable def oP:aI:=⟨[.val aQ,.val (.slice tI)],[.val (.slice aQ),.val tI],fun x=>s9 x.1 x.2.1⟩
noncomputable def DP:Cx:=⟨Tryz.prog,[(102,b6),(127,fO),(137,iM),(143,fE),(195,kU),(218,jE),(219,cN)]⟩
theorem Kt:∀ x,bf DP BL none Tryz.f189 oP x=oP.m x:=by intro x;kernel_rfl
theorem LC:az Tryz.prog 189:=ax (fn:=Tryz.f189) (by kernel_rfl) rfl (by decide)
theorem Lj:aK Tryz.prog 189 oP:=aH (X:=DP) (.cons fL fK (.cons jC jM (.cons sM sk (.cons m7 nk (.cons zY z1 (.cons Fp FK (.cons uA uw (.nil _)))))))) (by kernel_rfl) oP BL none (by kernel_rfl) (fun x y h=>(Kt x).trans h)
def xH:List (Nat×Ann):=[(4,⟨[(0,.ref 2000 0),(3,.ref 3 0),(5,.own 3 tI),(6,.val .bool),(20,.val (.slice aj)),(21,.val tI),(22,.val tI)],[(3,jZ),(2000,NL)],[.rowC 10250002 135 aj,.rowC 10250004 135 aj,.rowC 10250005 186 cK,.rowC 10250006 135 aj,.rowC 10250007 4 .bool,.rowC 10250008 135 aj],aY _⟩),
 (21,⟨[(0,.ref 2000 0),(84,.val (.slice aQ)),(85,.val tI),(86,.val tI)],[(2000,SJ)],[],aY _⟩),
 (200004,⟨[(0,.ref 2000 0),(3,.ref 3 0),(5,.own 3 tI),(6,.val .bool)],[(3,jZ),(2000,NL)],[.rowC 10250002 135 aj,.rowC 10250004 135 aj,.rowC 10250005 186 cK,.rowC 10250006 135 aj,.rowC 10250007 4 .bool,.rowC 10250008 135 aj],fun _=>0⟩),
 (200021,⟨[],[(2000,SJ)],[],fun _=>0⟩)]
noncomputable def kO:aI:=⟨[.box [.val bT,.row 135 aj,.val (.slice aj),.row 135 aj,.row 186 cK,.row 135 aj,.row 4 .bool,.row 135 aj],.val aj],[.val tI],fun x=>gQ x.1 x.2.1⟩
noncomputable def Ac:Cx:=⟨Tryz.prog,[(86,lW),(127,fO),(128,jx),(137,iM),(158,gP),(186,oK),(187,gK),(189,oP)]⟩
theorem GA:∀ x,bf Ac xH none Tryz.f129 kO x=kO.m x:=by intro x;kernel_rfl
theorem G4:az Tryz.prog 129:=ax (fn:=Tryz.f129) (by kernel_rfl) rfl (by decide)
theorem HK:aK Tryz.prog 129 kO:=aH (X:=Ac) (.cons AQ AT (.cons jC jM (.cons Ak AD (.cons sM sk (.cons qQ qG (.cons LF LW (.cons Cn Co (.cons Lj LC (.nil _))))))))) (by kernel_rfl) kO xH none (by kernel_rfl) (fun x y h=>(GA x).trans h)
def yI:List (Nat×Ann):=[(6,⟨[(0,.ref 2000 0),(3,.ref 3 0),(5,.ref 5 0),(6,.val tI),(7,.val .bool),(35,.val (.slice aj)),(36,.val tI),(37,.val tI)],[(3,Sc),(5,jZ),(2000,NL)],[.rowC 10250002 135 aj,.rowC 10250004 135 aj,.rowC 10250005 186 cK,.rowC 10250006 135 aj,.rowC 10250007 4 .bool,.rowC 10250008 135 aj],aY _⟩),
 (100005,⟨[(0,.ref 2000 0),(3,.ref 3 0),(5,.ref 5 0),(6,.val tI),(7,.val .bool)],[(3,Sc),(5,jZ),(2000,NL)],[.rowC 10250002 135 aj,.rowC 10250004 135 aj,.rowC 10250005 186 cK,.rowC 10250006 135 aj,.rowC 10250007 4 .bool,.rowC 10250008 135 aj],fun _=>0⟩),
 (100012,⟨[(0,.ref 2000 0),(6,.val tI),(7,.val .bool),(10,.ref 10 0)],[(10,jZ),(2000,NL)],[.rowC 10250002 135 aj,.rowC 10250004 135 aj,.rowC 10250005 186 cK,.rowC 10250006 135 aj,.rowC 10250007 4 .bool,.rowC 10250008 135 aj],fun _=>0⟩),
 (200006,⟨[(0,.ref 2000 0),(3,.ref 3 0),(5,.ref 5 0),(6,.val tI),(7,.val .bool)],[(3,Sc),(5,jZ),(2000,NL)],[.rowC 10250002 135 aj,.rowC 10250004 135 aj,.rowC 10250005 186 cK,.rowC 10250006 135 aj,.rowC 10250007 4 .bool,.rowC 10250008 135 aj],fun _=>0⟩)]
noncomputable def lI:aI:=⟨[.box [.val bT,.row 135 aj,.val (.slice aj),.row 135 aj,.row 186 cK,.row 135 aj,.row 4 .bool,.row 135 aj],.val gv],[.val tI],fun x=>mm x.1 x.2.1⟩
noncomputable def AA:Cx:=⟨Tryz.prog,[(71,cz),(72,dA),(74,iN),(88,jX),(89,oB),(124,me),(127,fO),(128,jx),(129,kO)]⟩
theorem Hg:∀ x,bf AA yI none Tryz.f68 lI x=lI.m x:=by intro x;kernel_rfl
theorem It:az Tryz.prog 68:=ax (fn:=Tryz.f68) (by kernel_rfl) rfl (by decide)
theorem IG:aK Tryz.prog 68 lI:=aH (X:=AA) (.cons fW fV (.cons wX wQ (.cons oQ oS (.cons yf ym (.cons DM Ec (.cons AN A8 (.cons jC jM (.cons Ak AD (.cons HK G4 (.nil _)))))))))) (by kernel_rfl) lI yI none (by kernel_rfl) (fun x y h=>(Hg x).trans h)
def Al:List (Nat×Ann):=[(3,⟨[(0,.ref 2000 0),(20,.val (.slice fX)),(21,.val tI),(22,.val tI)],[(2000,R7)],[.rowC 13 135 aj,.rowC 10250002 135 aj,.rowC 10250004 135 aj,.rowC 10250005 186 cK,.rowC 10250006 135 aj,.rowC 10250007 4 .bool],aY _⟩),
 (9,⟨[(0,.ref 2000 0),(57,.rowR 10250005),(58,.val tI),(59,.val tI)],[(2000,R7)],[.rowC 13 135 aj,.rowC 10250002 135 aj,.rowC 10250004 135 aj,.rowC 10250005 186 cK,.rowC 10250006 135 aj,.rowC 10250007 4 .bool],aY _⟩),
 (200003,⟨[(0,.ref 2000 0)],[(2000,R7)],[.rowC 13 135 aj,.rowC 10250002 135 aj,.rowC 10250004 135 aj,.rowC 10250005 186 cK,.rowC 10250006 135 aj,.rowC 10250007 4 .bool],fun _=>0⟩),
 (200009,⟨[(0,.ref 2000 0)],[(2000,R7)],[.rowC 13 135 aj,.rowC 10250002 135 aj,.rowC 10250004 135 aj,.rowC 10250005 186 cK,.rowC 10250006 135 aj,.rowC 10250007 4 .bool],fun _=>0⟩)]
noncomputable def nV:aI:=⟨[.box [.val bT,.row 135 aj,.val (.slice aj),.row 135 aj,.row 186 cK,.row 135 aj,.row 4 .bool,.row 135 aj]],[.val tI],fun x=>vX x.1⟩
noncomputable def CP:Cx:=⟨Tryz.prog,[(71,cz),(72,dn),(89,oB)]⟩
theorem IK:∀ x,bf CP Al none Tryz.f69 nV x=nV.m x:=by intro x;kernel_rfl
theorem KI:az Tryz.prog 69:=ax (fn:=Tryz.f69) (by kernel_rfl) rfl (by decide)
theorem KO:aK Tryz.prog 69 nV:=aH (X:=CP) (.cons fW fV (.cons wK wu (.cons DM Ec (.nil _)))) (by kernel_rfl) nV Al none (by kernel_rfl) (fun x y h=>(IK x).trans h)
def Au:List (Nat×Ann):=[(9,⟨[(5,.ref 18 0),(25,.val (.slice gv)),(26,.val tI),(27,.val tI)],[(18,SJ)],[.ar bZ],aY _⟩),
 (200009,⟨[(5,.ref 18 0)],[(18,SJ)],[.ar bZ],fun _=>0⟩)]
noncomputable def jh:aI:=⟨[.val bT,.ar bZ],[.val .hnd,.val tI],fun x=>iR x.1 x.2.1⟩
noncomputable def CX:Cx:=⟨Tryz.prog,[(37,kR),(67,kr),(68,lI),(69,nV)]⟩
theorem Jp:∀ x,bf CX Au none Tryz.f28 jh x=jh.m x:=by intro x;kernel_rfl
theorem wM:az Tryz.prog 28:=ax (fn:=Tryz.f28) (by kernel_rfl) rfl (by decide)
theorem wq:aK Tryz.prog 28 jh:=aH (X:=CX) (.cons G7 Ho (.cons Gm Gq (.cons IG It (.cons KO KI (.nil _))))) (by kernel_rfl) jh Au none (by kernel_rfl) (fun x y h=>(Jp x).trans h)
def H9:List (Nat×Ann):=[(3,⟨[(2,.ref 2 0),(3,.ref 3 0),(7,.val (.slice aj)),(8,.val tI),(9,.val tI)],[(2,wS),(3,jZ)],[],aY _⟩),
 (200003,⟨[(2,.ref 2 0),(3,.ref 3 0)],[(2,wS),(3,jZ)],[],fun _=>0⟩)]
noncomputable def xD:aI:=⟨[.val (.slice aj)],[.val aj],fun x=>A7 x.1⟩
noncomputable def Lf:Cx:=⟨Tryz.prog,[(71,cz),(127,fO)]⟩
theorem PN:∀ x,bf Lf H9 none Tryz.f70 xD x=xD.m x:=by intro x;kernel_rfl
theorem QL:az Tryz.prog 70:=ax (fn:=Tryz.f70) (by kernel_rfl) rfl (by decide)
theorem QV:aK Tryz.prog 70 xD:=aH (X:=Lf) (.cons fW fV (.cons jC jM (.nil _))) (by kernel_rfl) xD H9 none (by kernel_rfl) (fun x y h=>(PN x).trans h)
def zN:List (Nat×Ann):=[]
noncomputable def ki:aI:=⟨[.val .hnd,.val aj,.arR bZ],[.val aQ],fun x=>gu x.1 x.2.1 x.2.2.1⟩
noncomputable def B7:Cx:=⟨Tryz.prog,[(86,lW)]⟩
theorem Ix:∀ x,bf B7 zN none Tryz.f75 ki x=ki.m x:=by intro x;kernel_rfl
theorem Cg:az Tryz.prog 75:=ax (fn:=Tryz.f75) (by kernel_rfl) rfl (by decide)
theorem BN:aK Tryz.prog 75 ki:=aH (X:=B7) (.cons AQ AT (.nil _)) (by kernel_rfl) ki zN none (by kernel_rfl) (fun x y h=>(Ix x).trans h)
def xA:List (Nat×Ann):=[]
noncomputable def gI:aI:=⟨[.val .hnd,.arR bZ],[.val zf,.val tI],fun x=>kX x.1 x.2.1⟩
noncomputable def zU:Cx:=⟨Tryz.prog,[(70,xD),(71,cz),(72,dw),(75,ki)]⟩
theorem FY:∀ x,bf zU xA none Tryz.f29 gI x=gI.m x:=by intro x;kernel_rfl
theorem rZ:az Tryz.prog 29:=ax (fn:=Tryz.f29) (by kernel_rfl) rfl (by decide)
theorem sJ:aK Tryz.prog 29 gI:=aH (X:=zU) (.cons QV QL (.cons fW fV (.cons wz wC (.cons BN Cg (.nil _))))) (by kernel_rfl) gI xA none (by kernel_rfl) (fun x y h=>(FY x).trans h)
def D1:List (Nat×Ann):=[]
noncomputable def rK:aI:=⟨[.val bT],[.val zf,.val tI],fun x=>Bg x.1⟩
noncomputable def Gu:Cx:=⟨Tryz.prog,[(28,jh),(29,gI)]⟩
theorem MP:∀ x,bf Gu D1 (some bZ) Tryz.f12 rK x=rK.m x:=by intro x;kernel_rfl
theorem NQ:az Tryz.prog 12:=ax (fn:=Tryz.f12) (by kernel_rfl) rfl (by decide)
theorem NN:aK Tryz.prog 12 rK:=aH (X:=Gu) (.cons wq wM (.cons sJ rZ (.nil _))) (by kernel_rfl) rK D1 (some bZ) (by kernel_rfl) (fun x y h=>(MP x).trans h)
def zE:List (Nat×Ann):=[(3,⟨[(0,.val .hnd),(3,.own 35 bh),(10,.val (.slice fX)),(11,.val tI),(12,.val tI)],[],[.arF bZ],aY _⟩),
 (200003,⟨[(3,.own 35 bh)],[],[.arF bZ],fun _=>0⟩)]
noncomputable def kz:aI:=⟨[.val .hnd,.arR bZ],[.row 35 bh],fun x=>pR x.1 x.2.1⟩
noncomputable def BD:Cx:=⟨Tryz.prog,[(75,ki)]⟩
theorem Is:∀ x,bf BD zE none Tryz.f30 kz x=kz.m x:=by intro x;kernel_rfl
theorem BB:az Tryz.prog 30:=ax (fn:=Tryz.f30) (by kernel_rfl) rfl (by decide)
theorem BI:aK Tryz.prog 30 kz:=aH (X:=BD) (.cons BN Cg (.nil _)) (by kernel_rfl) kz zE none (by kernel_rfl) (fun x y h=>(Is x).trans h)
def Fa:List (Nat×Ann):=[]
noncomputable def s8:aI:=⟨[.val bT],[.val (.slice bh),.val tI],fun x=>C5 x.1⟩
noncomputable def HQ:Cx:=⟨Tryz.prog,[(28,jh),(29,gI),(30,kz)]⟩
theorem Nl:∀ x,bf HQ Fa (some bZ) Tryz.f9 s8 x=s8.m x:=by intro x;kernel_rfl
theorem OP:az Tryz.prog 9:=ax (fn:=Tryz.f9) (by kernel_rfl) rfl (by decide)
theorem OF:aK Tryz.prog 9 s8:=aH (X:=HQ) (.cons wq wM (.cons sJ rZ (.cons BI BB (.nil _)))) (by kernel_rfl) s8 Fa (some bZ) (by kernel_rfl) (fun x y h=>(Nl x).trans h)
def xw:List (Nat×Ann):=[]
noncomputable def kP:aI:=⟨[.val fU,.val (.ptr fU)],[.val .bool],fun x=>CS x.1 x.2.1⟩
noncomputable def zk:Cx:=⟨Tryz.prog,[]⟩
theorem Gk:∀ x,bf zk xw none Tryz.f49 kP x=kP.m x:=by intro x;kernel_rfl
theorem Hh:az Tryz.prog 49:=ax (fn:=Tryz.f49) (by kernel_rfl) rfl (by decide)
theorem GY:aK Tryz.prog 49 kP:=aH (X:=zk) (.nil _) (by kernel_rfl) kP xw none (by kernel_rfl) (fun x y h=>(Gk x).trans h)
def pS:List (Nat×Ann):=[(2,⟨[(0,.val (.slice fU)),(1,.val (.clo 49 (.ptr fU))),(7,.val tI),(8,.val tI)],[],[],aY _⟩),
 (200002,⟨[],[],[],fun _=>0⟩)]
noncomputable def gf:aI:=⟨[.val (.slice fU),.val (.clo 49 (.ptr fU))],[.val tI],fun x=>tY x.1 x.2.1⟩
noncomputable def qW:Cx:=⟨Tryz.prog,[(49,kP)]⟩
theorem Ae:∀ x,bf qW pS none Tryz.f101 gf x=gf.m x:=by intro x;kernel_rfl
theorem AP:az Tryz.prog 101:=ax (fn:=Tryz.f101) (by kernel_rfl) rfl (by decide)
theorem AZ:aK Tryz.prog 101 gf:=aH (X:=qW) (.cons GY Hh (.nil _)) (by kernel_rfl) gf pS none (by kernel_rfl) (fun x y h=>(Ae x).trans h)
def n9:List (Nat×Ann):=[]
noncomputable def eN:aI:=⟨[.val (.slice fU),.val (.clo 49 (.ptr fU))],[.val .bool],fun x=>q9 x.1 x.2.1⟩
noncomputable def o6:Cx:=⟨Tryz.prog,[(101,gf)]⟩
theorem yc:∀ x,bf o6 n9 none Tryz.f48 eN x=eN.m x:=by intro x;kernel_rfl
theorem yZ:az Tryz.prog 48:=ax (fn:=Tryz.f48) (by kernel_rfl) rfl (by decide)
theorem za:aK Tryz.prog 48 eN:=aH (X:=o6) (.cons AZ AP (.nil _)) (by kernel_rfl) eN n9 none (by kernel_rfl) (fun x y h=>(yc x).trans h)
def z6:List (Nat×Ann):=[]
noncomputable def j7:aI:=⟨[.val aQ],[.val tI],fun x=>pP x.1⟩
noncomputable def Ci:Cx:=⟨Tryz.prog,[(102,b6),(103,jv)]⟩
theorem Ip:∀ x,bf Ci z6 none Tryz.f51 j7 x=j7.m x:=by intro x;kernel_rfl
theorem BM:az Tryz.prog 51:=ax (fn:=Tryz.f51) (by kernel_rfl) rfl (by decide)
theorem BH:aK Tryz.prog 51 j7:=aH (X:=Ci) (.cons fL fK (.cons tW tZ (.nil _))) (by kernel_rfl) j7 z6 none (by kernel_rfl) (fun x y h=>(Ip x).trans h)
def zh:List (Nat×Ann):=[(4,⟨[(0,.val (.slice fU)),(9,.val (.slice fU)),(10,.val tI),(11,.val tI)],[],[],aY _⟩),
 (200004,⟨[],[],[],fun _=>0⟩)]
noncomputable def mP:aI:=⟨[.val (.slice fU)],[.val tI],fun x=>ED x.1⟩
noncomputable def Cc:Cx:=⟨Tryz.prog,[(38,iO),(39,eY),(48,eN),(50,oC),(51,j7)]⟩
theorem Ir:∀ x,bf Cc zh none Tryz.f21 mP x=mP.m x:=by intro x;kernel_rfl
theorem IV:az Tryz.prog 21:=ax (fn:=Tryz.f21) (by kernel_rfl) rfl (by decide)
theorem Jn:aK Tryz.prog 21 mP:=aH (X:=Cc) (.cons pJ pn (.cons kC j6 (.cons za yZ (.cons DE DN (.cons BH BM (.nil _)))))) (by kernel_rfl) mP zh none (by kernel_rfl) (fun x y h=>(Ir x).trans h)
def uT:List (Nat×Ann):=[(2,⟨[(0,.val (.slice .str)),(1,.val .str),(7,.val tI),(8,.val tI)],[],[],aY _⟩),
 (200002,⟨[],[],[],fun _=>0⟩)]
noncomputable def jG:aI:=⟨[.val (.slice .str),.val .str],[.val tI],fun x=>Ag x.1 x.2.1⟩
noncomputable def xB:Cx:=⟨Tryz.prog,[]⟩
theorem Er:∀ x,bf xB uT none Tryz.f204 jG x=jG.m x:=by intro x;kernel_rfl
theorem Fj:az Tryz.prog 204:=ax (fn:=Tryz.f204) (by kernel_rfl) rfl (by decide)
theorem Fk:aK Tryz.prog 204 jG:=aH (X:=xB) (.nil _) (by kernel_rfl) jG uT none (by kernel_rfl) (fun x y h=>(Er x).trans h)
def rX:List (Nat×Ann):=[]
noncomputable def gT:aI:=⟨[.val (.slice .str),.val .str],[.val .bool],fun x=>xC x.1 x.2.1⟩
noncomputable def uo:Cx:=⟨Tryz.prog,[(204,jG)]⟩
theorem CB:∀ x,bf uo rX none Tryz.f161 gT x=gT.m x:=by intro x;kernel_rfl
theorem CZ:az Tryz.prog 161:=ax (fn:=Tryz.f161) (by kernel_rfl) rfl (by decide)
theorem C8:aK Tryz.prog 161 gT:=aH (X:=uo) (.cons Fk Fj (.nil _)) (by kernel_rfl) gT rX none (by kernel_rfl) (fun x y h=>(CB x).trans h)
def wh:List (Nat×Ann):=[(4,⟨[(0,.val (.slice cC)),(11,.val (.slice cC)),(12,.val tI),(13,.val tI)],[],[],aY _⟩),
 (16,⟨[(0,.val (.slice cC)),(4,.ref 4 0),(11,.val (.slice cC)),(12,.val tI),(13,.val tI),(46,.val (.slice .str)),(47,.val tI),(48,.val tI)],[(4,SK)],[],aY _⟩),
 (200004,⟨[],[],[],fun _=>0⟩),
 (200016,⟨[(0,.val (.slice cC)),(11,.val (.slice cC)),(12,.val tI),(13,.val tI)],[],[],fun _=>0⟩)]
noncomputable def kD:aI:=⟨[.val (.slice cC)],[.val tI],fun x=>Cb x.1⟩
noncomputable def yN:Cx:=⟨Tryz.prog,[(38,iO),(50,oC),(51,j7),(161,gT)]⟩
theorem Ft:∀ x,bf yN wh none Tryz.f104 kD x=kD.m x:=by intro x;kernel_rfl
theorem FZ:az Tryz.prog 104:=ax (fn:=Tryz.f104) (by kernel_rfl) rfl (by decide)
theorem GJ:aK Tryz.prog 104 kD:=aH (X:=yN) (.cons pJ pn (.cons DE DN (.cons BH BM (.cons C8 CZ (.nil _))))) (by kernel_rfl) kD wh none (by kernel_rfl) (fun x y h=>(Ft x).trans h)
def As:List (Nat×Ann):=[]
noncomputable def nW:aI:=⟨[.val (.slice fU),.val (.slice cC)],[.val tI],fun x=>Gt x.1 x.2.1⟩
noncomputable def CU:Cx:=⟨Tryz.prog,[(21,mP),(104,kD)]⟩
theorem Jq:∀ x,bf CU As none Tryz.f52 nW x=nW.m x:=by intro x;kernel_rfl
theorem Kx:az Tryz.prog 52:=ax (fn:=Tryz.f52) (by kernel_rfl) rfl (by decide)
theorem KU:aK Tryz.prog 52 nW:=aH (X:=CU) (.cons Jn IV (.cons GJ FZ (.nil _))) (by kernel_rfl) nW As none (by kernel_rfl) (fun x y h=>(Jq x).trans h)
def EX:List (Nat×Ann):=[]
noncomputable def tc:aI:=⟨[.val aQ],[.val tI],fun x=>G6 x.1⟩
noncomputable def Ia:Cx:=⟨Tryz.prog,[(160,nA)]⟩
theorem Nd:∀ x,bf Ia EX none Tryz.f105 tc x=tc.m x:=by intro x;kernel_rfl
theorem OK:az Tryz.prog 105:=ax (fn:=Tryz.f105) (by kernel_rfl) rfl (by decide)
theorem Oq:aK Tryz.prog 105 tc:=aH (X:=Ia) (.cons Cv Cj (.nil _)) (by kernel_rfl) tc EX none (by kernel_rfl) (fun x y h=>(Nd x).trans h)
def rN:List (Nat×Ann):=[]
noncomputable def gJ:aI:=⟨[.val (.slice .hnd)],[.row 113 .hnd],fun x=>wg x.1⟩
noncomputable def s4:Cx:=⟨Tryz.prog,[]⟩
theorem B3:∀ x,bf s4 rN none Tryz.f106 gJ x=gJ.m x:=by intro x;kernel_rfl
theorem Cm:az Tryz.prog 106:=ax (fn:=Tryz.f106) (by kernel_rfl) rfl (by decide)
theorem Ck:aK Tryz.prog 106 gJ:=aH (X:=s4) (.nil _) (by kernel_rfl) gJ rN none (by kernel_rfl) (fun x y h=>(B3 x).trans h)
def Ay:List (Nat×Ann):=[]
noncomputable def nT:aI:=⟨[.val .hnd,.arR aO],[.val tI],fun x=>AG x.1 x.2.1⟩
noncomputable def CR:Cx:=⟨Tryz.prog,[]⟩
theorem JM:∀ x,bf CR Ay none Tryz.f109 nT x=nT.m x:=by intro x;kernel_rfl
theorem KW:az Tryz.prog 109:=ax (fn:=Tryz.f109) (by kernel_rfl) rfl (by decide)
theorem KK:aK Tryz.prog 109 nT:=aH (X:=CR) (.nil _) (by kernel_rfl) nT Ay none (by kernel_rfl) (fun x y h=>(JM x).trans h)
def zA:List (Nat×Ann):=[]
noncomputable def ko:aI:=⟨[.val .hnd,.val .hnd,.arR aO],[.val tI],fun x=>pQ x.1 x.2.1 x.2.2.1⟩
noncomputable def BP:Cx:=⟨Tryz.prog,[(109,nT)]⟩
theorem II:∀ x,bf BP zA none Tryz.f108 ko x=ko.m x:=by intro x;kernel_rfl
theorem Ce:az Tryz.prog 108:=ax (fn:=Tryz.f108) (by kernel_rfl) rfl (by decide)
theorem BJ:aK Tryz.prog 108 ko:=aH (X:=BP) (.cons KK KW (.nil _)) (by kernel_rfl) ko zA none (by kernel_rfl) (fun x y h=>(II x).trans h)
def jV:List (Nat×Ann):=[(1,⟨[(0,.rowR 10250000),(1,.val tI),(2,.val tI),(3,.val (.clo 108 .unit)),(8,.val tI)],[],[.rowC 10250000 113 .hnd,.arF aO],aY _⟩),
 (4,⟨[(0,.rowR 10250000),(1,.val tI),(2,.val tI),(3,.val (.clo 108 .unit)),(8,.val tI),(9,.val tI)],[],[.rowC 10250000 113 .hnd,.arF aO],aY _⟩),
 (200001,⟨[],[],[.rowC 10250000 113 .hnd,.arF aO],fun _=>0⟩),
 (200004,⟨[(0,.rowR 10250000),(1,.val tI),(2,.val tI),(3,.val (.clo 108 .unit)),(8,.val tI)],[],[.rowC 10250000 113 .hnd,.arF aO],fun _=>0⟩)]
noncomputable def cr:aI:=⟨[.mrow 113 .hnd,.val tI,.val tI,.val (.clo 108 .unit),.arR aO],[],fun x=>gS x.1 x.2.1 x.2.2.1 x.2.2.2.1 x.2.2.2.2.1⟩
noncomputable def kK:Cx:=⟨Tryz.prog,[(108,ko)]⟩
theorem qZ:∀ x,bf kK jV none Tryz.f205 cr x=cr.m x:=by intro x;kernel_rfl
theorem rR:az Tryz.prog 205:=ax (fn:=Tryz.f205) (by kernel_rfl) rfl (by decide)
theorem rQ:aK Tryz.prog 205 cr:=aH (X:=kK) (.cons BJ Ce (.nil _)) (by kernel_rfl) cr jV none (by kernel_rfl) (fun x y h=>(qZ x).trans h)
def k9:List (Nat×Ann):=[(1,⟨[(0,.rowR 10250000),(1,.val tI),(2,.val tI),(3,.val tI),(10,.val tI)],[],[.rowC 10250000 113 .hnd,.arF aO],aY _⟩),
 (200001,⟨[],[],[.rowC 10250000 113 .hnd,.arF aO],fun _=>0⟩)]
noncomputable def cM:aI:=⟨[.mrow 113 .hnd,.val tI,.val tI,.val tI,.val (.clo 108 .unit),.arR aO],[],fun x=>fS x.1 x.2.1 x.2.2.1 x.2.2.2.1 x.2.2.2.2.1 x.2.2.2.2.2.1⟩
noncomputable def mz:Cx:=⟨Tryz.prog,[]⟩
theorem tT:∀ x,bf mz k9 none Tryz.f240 cM x=cM.m x:=by intro x;kernel_rfl
theorem ur:az Tryz.prog 240:=ax (fn:=Tryz.f240) (by kernel_rfl) rfl (by decide)
theorem uv:aK Tryz.prog 240 cM:=aH (X:=mz) (.nil _) (by kernel_rfl) cM k9 none (by kernel_rfl) (fun x y h=>(tT x).trans h)
def mO:List (Nat×Ann):=[(2,⟨[(0,.rowR 10250000),(2,.val tI),(4,.val (.clo 108 .unit)),(10,.val tI),(11,.val tI)],[],[.rowC 10250000 113 .hnd,.arF aO],aY _⟩),
 (200002,⟨[(0,.rowR 10250000),(2,.val tI),(4,.val (.clo 108 .unit)),(10,.val tI)],[],[.rowC 10250000 113 .hnd,.arF aO],fun _=>0⟩)]
noncomputable def dy:aI:=⟨[.mrow 113 .hnd,.val tI,.val tI,.val tI,.val (.clo 108 .unit),.arR aO],[],fun x=>o5 x.1 x.2.1 x.2.2.1 x.2.2.2.1 x.2.2.2.2.1 x.2.2.2.2.2.1⟩
noncomputable def nL:Cx:=⟨Tryz.prog,[(240,cM)]⟩
theorem vG:∀ x,bf nL mO none Tryz.f231 dy x=dy.m x:=by intro x;kernel_rfl
theorem wJ:az Tryz.prog 231:=ax (fn:=Tryz.f231) (by kernel_rfl) rfl (by decide)
theorem wA:aK Tryz.prog 231 dy:=aH (X:=nL) (.cons uv ur (.nil _)) (by kernel_rfl) dy mO none (by kernel_rfl) (fun x y h=>(vG x).trans h)
def lF:List (Nat×Ann):=[(3,⟨[(0,.rowR 10250000),(1,.val tI),(4,.val (.clo 108 .unit)),(10,.val tI),(11,.val tI)],[],[.rowC 10250000 113 .hnd,.arF aO],aY _⟩),
 (9,⟨[(0,.rowR 10250000),(10,.val tI),(13,.val tI)],[],[.rowC 10250000 113 .hnd,.arF aO],aY _⟩),
 (15,⟨[(0,.rowR 10250000),(2,.val tI),(4,.val (.clo 108 .unit)),(14,.val tI),(15,.val tI)],[],[.rowC 10250000 113 .hnd,.arF aO],aY _⟩),
 (21,⟨[(0,.rowR 10250000),(14,.val tI),(17,.val tI)],[],[.rowC 10250000 113 .hnd,.arF aO],aY _⟩),
 (33,⟨[(0,.rowR 10250000),(1,.val tI),(2,.val tI),(3,.val tI),(4,.val (.clo 108 .unit)),(18,.val tI),(19,.val tI),(20,.val tI),(21,.val tI),(22,.val tI)],[],[.rowC 10250000 113 .hnd,.arF aO],aY _⟩),
 (100030,⟨[(0,.rowR 10250000),(1,.val tI),(2,.val tI),(3,.val tI),(4,.val (.clo 108 .unit)),(18,.val tI),(19,.val tI),(20,.val tI),(21,.val tI)],[],[.rowC 10250000 113 .hnd,.arF aO],fun _=>0⟩),
 (100040,⟨[(0,.rowR 10250000),(1,.val tI),(3,.val tI),(4,.val (.clo 108 .unit)),(18,.val tI),(20,.val tI),(24,.val tI)],[],[.rowC 10250000 113 .hnd,.arF aO],fun _=>0⟩),
 (100042,⟨[(0,.rowR 10250000),(3,.val tI),(4,.val (.clo 108 .unit)),(18,.val tI),(24,.val tI)],[],[.rowC 10250000 113 .hnd,.arF aO],fun _=>0⟩),
 (200003,⟨[(0,.rowR 10250000),(1,.val tI),(10,.val tI)],[],[.rowC 10250000 113 .hnd,.arF aO],fun _=>0⟩),
 (200009,⟨[],[],[.rowC 10250000 113 .hnd,.arF aO],fun _=>0⟩),
 (200015,⟨[(0,.rowR 10250000),(2,.val tI),(14,.val tI)],[],[.rowC 10250000 113 .hnd,.arF aO],fun _=>0⟩),
 (200021,⟨[],[],[.rowC 10250000 113 .hnd,.arF aO],fun _=>0⟩),
 (200033,⟨[(0,.rowR 10250000),(1,.val tI),(2,.val tI),(3,.val tI),(4,.val (.clo 108 .unit)),(18,.val tI),(19,.val tI),(20,.val tI)],[],[.rowC 10250000 113 .hnd,.arF aO],fun _=>0⟩)]
def bL:List PM:=[.mrow 113 .hnd,.val tI,.val tI,.val tI,.val (.clo 108 .unit),.arR aO]
def cc:List RM:=[]
noncomputable def mq:List (Nat×aI):=[(108,ko),(231,dy)]
noncomputable def mV:aI:=⟨bL,cc,fun x=>jN x.1 x.2.1 x.2.2.1 x.2.2.2.1 x.2.2.2.2.1 x.2.2.2.2.2.1⟩
theorem uz:∀ (self:gq bL→Option (dx bL cc)) (x:gq bL),bf ⟨Tryz.prog,(206,⟨bL,cc,self⟩)::mq⟩ lF none Tryz.f206 ⟨bL,cc,fun x=>de self x.1 x.2.1 x.2.2.1 x.2.2.2.1 x.2.2.2.2.1 x.2.2.2.2.2.1⟩ x=de self x.1 x.2.1 x.2.2.1 x.2.2.2.1 x.2.2.2.2.1 x.2.2.2.2.2.1:=by intro self x;kernel_rfl
theorem nq:az Tryz.prog 206:=ax (fn:=Tryz.f206) (by kernel_rfl) rfl (by decide)
theorem uS:aK Tryz.prog 206 mV:=La (ps:=bL) (rs:=cc) (m:=fun n x=>AV (fun self x=>de self x.1 x.2.1 x.2.2.1 x.2.2.2.1 x.2.2.2.2.1 x.2.2.2.2.2.1) n x) (Hf (P:=Tryz.prog) (specs:=mq) (ps:=bL) (rs:=cc) (.cons BJ Ce (.cons wA wJ (.nil _))) (by kernel_rfl) (fun self x=>de self x.1 x.2.1 x.2.2.1 x.2.2.2.1 x.2.2.2.2.1 x.2.2.2.2.2.1) lF none (by kernel_rfl) nq uz) (fun x=>lP x.1 x.2.1 x.2.2.1 x.2.2.2.1 x.2.2.2.2.1 x.2.2.2.2.2.1)
def mX:List (Nat×Ann):=[(2,⟨[(0,.rowR 10250000),(1,.val tI),(2,.val (.clo 108 .unit)),(6,.val tI),(7,.val tI),(8,.val tI)],[],[.rowC 10250000 113 .hnd,.arF aO],aY _⟩),
 (7,⟨[(0,.rowR 10250000),(1,.val tI),(2,.val (.clo 108 .unit)),(6,.val tI)],[],[.rowC 10250000 113 .hnd,.arF aO],aY _⟩),
 (9,⟨[(0,.rowR 10250000),(1,.val tI),(2,.val (.clo 108 .unit)),(6,.val tI),(7,.val tI),(8,.val tI)],[],[.rowC 10250000 113 .hnd,.arF aO],aY _⟩),
 (200002,⟨[(0,.rowR 10250000),(1,.val tI),(2,.val (.clo 108 .unit)),(6,.val tI),(7,.val tI)],[],[.rowC 10250000 113 .hnd,.arF aO],fun _=>0⟩),
 (200007,⟨[],[],[.rowC 10250000 113 .hnd,.arF aO],fun _=>0⟩),
 (200009,⟨[(0,.rowR 10250000),(1,.val tI),(2,.val (.clo 108 .unit)),(6,.val tI),(7,.val tI)],[],[.rowC 10250000 113 .hnd,.arF aO],fun _=>0⟩)]
noncomputable def dB:aI:=⟨[.mrow 113 .hnd,.val tI,.val (.clo 108 .unit),.arR aO],[],fun x=>o8 x.1 x.2.1 x.2.2.1 x.2.2.2.1⟩
noncomputable def nJ:Cx:=⟨Tryz.prog,[(205,cr),(206,mV)]⟩
theorem vE:∀ x,bf nJ mX none Tryz.f162 dB x=dB.m x:=by intro x;kernel_rfl
theorem wB:az Tryz.prog 162:=ax (fn:=Tryz.f162) (by kernel_rfl) rfl (by decide)
theorem wN:aK Tryz.prog 162 dB:=aH (X:=nJ) (.cons rQ rR (.cons uS nq (.nil _))) (by kernel_rfl) dB mX none (by kernel_rfl) (fun x y h=>(vE x).trans h)
def mw:List (Nat×Ann):=[]
noncomputable def c9:aI:=⟨[.mrow 113 .hnd,.val (.clo 108 .unit),.arR aO],[],fun x=>oF x.1 x.2.1 x.2.2.1⟩
noncomputable def ny:Cx:=⟨Tryz.prog,[(162,dB)]⟩
theorem uF:∀ x,bf ny mw none Tryz.f107 c9 x=c9.m x:=by intro x;kernel_rfl
theorem vR:az Tryz.prog 107:=ax (fn:=Tryz.f107) (by kernel_rfl) rfl (by decide)
theorem vO:aK Tryz.prog 107 c9:=aH (X:=ny) (.cons wN wB (.nil _)) (by kernel_rfl) c9 mw none (by kernel_rfl) (fun x y h=>(uF x).trans h)
def zo:List (Nat×Ann):=[]
noncomputable def mY:aI:=⟨[.val .hnd,.val tI,.arR aO],[.val .bool],fun x=>zO x.1 x.2.1 x.2.2.1⟩
noncomputable def BU:Cx:=⟨Tryz.prog,[]⟩
theorem Iv:∀ x,bf BU zo none Tryz.f110 mY x=mY.m x:=by intro x;kernel_rfl
theorem JH:az Tryz.prog 110:=ax (fn:=Tryz.f110) (by kernel_rfl) rfl (by decide)
theorem IN:aK Tryz.prog 110 mY:=aH (X:=BU) (.nil _) (by kernel_rfl) mY zo none (by kernel_rfl) (fun x y h=>(Iv x).trans h)
def vY:List (Nat×Ann):=[]
noncomputable def kg:aI:=⟨[.val .hnd,.arR aO],[.val tI],fun x=>Ca x.1 x.2.1⟩
noncomputable def yK:Cx:=⟨Tryz.prog,[(160,nA)]⟩
theorem Fg:∀ x,bf yK vY none Tryz.f163 kg x=kg.m x:=by intro x;kernel_rfl
theorem GO:az Tryz.prog 163:=ax (fn:=Tryz.f163) (by kernel_rfl) rfl (by decide)
theorem Ge:aK Tryz.prog 163 kg:=aH (X:=yK) (.cons Cv Cj (.nil _)) (by kernel_rfl) kg vY none (by kernel_rfl) (fun x y h=>(Fg x).trans h)
def B8:List (Nat×Ann):=[]
noncomputable def mo:aI:=⟨[.val .hnd,.val tI,.val tI,.ar aO],[.val tI],fun x=>xM x.1 x.2.1 x.2.2.1 x.2.2.2.1⟩
noncomputable def Dp:Cx:=⟨Tryz.prog,[]⟩
theorem Kz:∀ x,bf Dp B8 none Tryz.f112 mo x=mo.m x:=by intro x;kernel_rfl
theorem Ej:az Tryz.prog 112:=ax (fn:=Tryz.f112) (by kernel_rfl) rfl (by decide)
theorem Dz:aK Tryz.prog 112 mo:=aH (X:=Dp) (.nil _) (by kernel_rfl) mo B8 none (by kernel_rfl) (fun x y h=>(Kz x).trans h)
def zF:List (Nat×Ann):=[]
noncomputable def mM:aI:=⟨[.val .hnd,.val tI,.val tI,.ar aO],[.val tI],fun x=>E4 x.1 x.2.1 x.2.2.1 x.2.2.2.1⟩
noncomputable def B6:Cx:=⟨Tryz.prog,[(112,mo),(163,kg)]⟩
theorem IC:∀ x,bf B6 zF none Tryz.f111 mM x=mM.m x:=by intro x;kernel_rfl
theorem JV:az Tryz.prog 111:=ax (fn:=Tryz.f111) (by kernel_rfl) rfl (by decide)
theorem IW:aK Tryz.prog 111 mM:=aH (X:=B6) (.cons Dz Ej (.cons Ge GO (.nil _))) (by kernel_rfl) mM zF none (by kernel_rfl) (fun x y h=>(IC x).trans h)
def BT:List (Nat×Ann):=[(4,⟨[(1,.val (.slice cC)),(2,.val tI),(8,.own 113 .hnd),(9,.mapR 23),(24,.val (.slice fU)),(25,.val tI),(26,.val tI)],[],[.mapC 23 .str .hnd,.ar aO],aY _⟩),
 (14,⟨[(2,.val tI),(8,.own 113 .hnd),(9,.mapR 23),(13,.rowR 105744),(14,.own 3 tI),(49,.val (.slice cC)),(50,.val tI),(51,.val tI)],[],[.rowC 105744 113 .hnd,.mapC 23 .str .hnd,.ar aO],aY _⟩),
 (19,⟨[(2,.val tI),(8,.own 113 .hnd),(9,.mapR 23),(13,.rowR 105744),(14,.own 3 tI),(16,.ref 16 0),(17,.val tI),(49,.val (.slice cC)),(50,.val tI),(51,.val tI),(63,.val (.slice .str)),(64,.val tI),(65,.val tI)],[(16,SK)],[.rowC 105744 113 .hnd,.mapC 23 .str .hnd,.ar aO],aY _⟩),
 (26,⟨[(2,.val tI),(8,.own 113 .hnd),(9,.mapR 23),(13,.rowR 105744),(14,.own 3 tI),(16,.ref 16 0),(17,.val tI),(49,.val (.slice cC)),(50,.val tI),(51,.val tI),(86,.rowR 105744),(87,.val tI),(88,.val tI)],[(16,SK)],[.rowC 105744 113 .hnd,.mapC 23 .str .hnd,.ar aO],aY _⟩),
 (200004,⟨[(1,.val (.slice cC)),(2,.val tI),(8,.own 113 .hnd),(9,.mapR 23)],[],[.mapC 23 .str .hnd,.ar aO],fun _=>0⟩),
 (200014,⟨[(8,.own 113 .hnd),(14,.own 3 tI)],[],[.ar aO],fun _=>0⟩),
 (200019,⟨[(2,.val tI),(8,.own 113 .hnd),(9,.mapR 23),(13,.rowR 105744),(14,.own 3 tI),(16,.ref 16 0),(17,.val tI),(49,.val (.slice cC)),(50,.val tI),(51,.val tI)],[(16,SK)],[.rowC 105744 113 .hnd,.mapC 23 .str .hnd,.ar aO],fun _=>0⟩),
 (200026,⟨[(2,.val tI),(8,.own 113 .hnd),(9,.mapR 23),(13,.rowR 105744),(14,.own 3 tI),(17,.val tI),(49,.val (.slice cC)),(50,.val tI),(51,.val tI)],[],[.rowC 105744 113 .hnd,.mapC 23 .str .hnd,.ar aO],fun _=>0⟩)]
noncomputable def oJ:aI:=⟨[.val (.slice fU),.val (.slice cC),.val tI,.ar aO],[.val (.slice .hnd),.val (.slice tI)],fun x=>Io x.1 x.2.1 x.2.2.1 x.2.2.2.1⟩
noncomputable def DU:Cx:=⟨Tryz.prog,[(105,tc),(106,gJ),(107,c9),(110,mY),(111,mM),(112,mo)]⟩
theorem Kw:∀ x,bf DU BT none Tryz.f53 oJ x=oJ.m x:=by intro x;kernel_rfl
theorem LA:az Tryz.prog 53:=ax (fn:=Tryz.f53) (by kernel_rfl) rfl (by decide)
theorem Lp:aK Tryz.prog 53 oJ:=aH (X:=DU) (.cons Oq OK (.cons Ck Cm (.cons vO vR (.cons IN JH (.cons IW JV (.cons Dz Ej (.nil _))))))) (by kernel_rfl) oJ BT none (by kernel_rfl) (fun x y h=>(Kw x).trans h)
def BO:List (Nat×Ann):=[(2,⟨[(1,.val tI),(2,.ref 2 0),(4,.ref 4 0),(6,.ref 6 0)],[(2,jZ),(4,Ea),(6,jZ)],[],aY _⟩),
 (200002,⟨[(1,.val tI),(2,.ref 2 0),(4,.ref 4 0)],[(2,jZ),(4,Ea)],[],fun _=>0⟩)]
noncomputable def oz:aI:=⟨[.val aj,.val tI],[.val aQ,.val tI],fun x=>H6 x.1 x.2.1⟩
noncomputable def Ed:Cx:=⟨Tryz.prog,[(86,lW),(127,fO),(158,gP),(159,iD),(195,kU)]⟩
theorem KE:∀ x,bf Ed BO none Tryz.f164 oz x=oz.m x:=by intro x;kernel_rfl
theorem Lu:az Tryz.prog 164:=ax (fn:=Tryz.f164) (by kernel_rfl) rfl (by decide)
theorem LQ:aK Tryz.prog 164 oz:=aH (X:=Ed) (.cons AQ AT (.cons jC jM (.cons qQ qG (.cons uE vn (.cons zY z1 (.nil _)))))) (by kernel_rfl) oz BO none (by kernel_rfl) (fun x y h=>(KE x).trans h)
def E2:List (Nat×Ann):=[]
noncomputable def sW:aI:=⟨[.val tI],[.val aQ,.val tI],fun x=>MH x.1⟩
noncomputable def Im:Cx:=⟨Tryz.prog,[(127,fO),(164,oz)]⟩
theorem NS:∀ x,bf Im E2 none Tryz.f113 sW x=sW.m x:=by intro x;kernel_rfl
theorem OU:az Tryz.prog 113:=ax (fn:=Tryz.f113) (by kernel_rfl) rfl (by decide)
theorem OO:aK Tryz.prog 113 sW:=aH (X:=Im) (.cons jC jM (.cons LQ Lu (.nil _))) (by kernel_rfl) sW E2 none (by kernel_rfl) (fun x y h=>(NS x).trans h)
def Aj:List (Nat×Ann):=[]
noncomputable def nY:aI:=⟨[.val tI],[.val aQ],fun x=>vK x.1⟩
noncomputable def CH:Cx:=⟨Tryz.prog,[(113,sW)]⟩
theorem I4:∀ x,bf CH Aj none Tryz.f54 nY x=nY.m x:=by intro x;kernel_rfl
theorem KQ:az Tryz.prog 54:=ax (fn:=Tryz.f54) (by kernel_rfl) rfl (by decide)
theorem KJ:aK Tryz.prog 54 nY:=aH (X:=CH) (.cons OO OU (.nil _)) (by kernel_rfl) nY Aj none (by kernel_rfl) (fun x y h=>(I4 x).trans h)
def HR:List (Nat×Ann):=[(7,⟨[(9,.val (.slice tI)),(10,.own 63 zJ),(28,.val (.slice .hnd)),(29,.val tI),(30,.val tI)],[],[.ar aO],aY _⟩),
 (13,⟨[(10,.own 63 zJ),(13,.own 33 aQ),(58,.val (.slice tI)),(59,.val tI),(60,.val tI)],[],[.ar aO],aY _⟩),
 (200007,⟨[(9,.val (.slice tI)),(10,.own 63 zJ)],[],[.ar aO],fun _=>0⟩),
 (200013,⟨[(10,.own 63 zJ),(13,.own 33 aQ)],[],[.ar aO],fun _=>0⟩)]
noncomputable def xh:aI:=⟨[.val (.slice fU),.val (.slice cC)],[.val (.slice zJ),.val (.slice aQ),.val tI],fun x=>Qx x.1 x.2.1⟩
noncomputable def K8:Cx:=⟨Tryz.prog,[(52,nW),(53,oJ),(54,nY)]⟩
theorem Qq:∀ x,bf K8 HR (some aO) Tryz.f22 xh x=xh.m x:=by intro x;kernel_rfl
theorem QB:az Tryz.prog 22:=ax (fn:=Tryz.f22) (by kernel_rfl) rfl (by decide)
theorem Rh:aK Tryz.prog 22 xh:=aH (X:=K8) (.cons KU Kx (.cons Lp LA (.cons KJ KQ (.nil _)))) (by kernel_rfl) xh HR (some aO) (by kernel_rfl) (fun x y h=>(Qq x).trans h)
def F7:List (Nat×Ann):=[]
noncomputable def vt:aI:=⟨[],[.val .bool],fun x=>BZ ⟩
noncomputable def I5:Cx:=⟨Tryz.prog,[(22,xh)]⟩
theorem OG:∀ x,bf I5 F7 none Tryz.f14 vt x=vt.m x:=by intro x;kernel_rfl
theorem Qy:az Tryz.prog 14:=ax (fn:=Tryz.f14) (by kernel_rfl) rfl (by decide)
theorem Pu:aK Tryz.prog 14 vt:=aH (X:=I5) (.cons Rh QB (.nil _)) (by kernel_rfl) vt F7 none (by kernel_rfl) (fun x y h=>(OG x).trans h)
def tX:List (Nat×Ann):=[(2,⟨[(6,.val (.slice aQ)),(7,.val tI),(8,.val tI)],[],[],aY _⟩),
 (200002,⟨[],[],[],fun _=>0⟩)]
noncomputable def iW:aI:=⟨[.val (.slice aQ)],[.val tI],fun x=>dG x.1⟩
noncomputable def wj:Cx:=⟨Tryz.prog,[(102,b6)]⟩
theorem DW:∀ x,bf wj tX none Tryz.f114 iW x=iW.m x:=by intro x;kernel_rfl
theorem En:az Tryz.prog 114:=ax (fn:=Tryz.f114) (by kernel_rfl) rfl (by decide)
theorem Ep:aK Tryz.prog 114 iW:=aH (X:=wj) (.cons fL fK (.nil _)) (by kernel_rfl) iW tX none (by kernel_rfl) (fun x y h=>(DW x).trans h)
def yM:List (Nat×Ann):=[(7,⟨[(1,.val (.slice bh)),(27,.val (.slice bh)),(28,.val tI),(29,.val tI)],[],[],aY _⟩),
 (200007,⟨[],[],[],fun _=>0⟩)]
noncomputable def lN:aI:=⟨[.val zf,.val (.slice bh)],[.val tI],fun x=>mc x.1 x.2.1⟩
noncomputable def Ai:Cx:=⟨Tryz.prog,[(38,iO),(114,iW)]⟩
theorem GR:∀ x,bf Ai yM none Tryz.f55 lN x=lN.m x:=by intro x;kernel_rfl
theorem Iw:az Tryz.prog 55:=ax (fn:=Tryz.f55) (by kernel_rfl) rfl (by decide)
theorem Iy:aK Tryz.prog 55 lN:=aH (X:=Ai) (.cons pJ pn (.cons Ep En (.nil _))) (by kernel_rfl) lN yM none (by kernel_rfl) (fun x y h=>(GR x).trans h)
def CO:List (Nat×Ann):=[]
noncomputable def pZ:aI:=⟨[.val aQ],[.val aj],fun x=>uO x.1⟩
noncomputable def E9:Cx:=⟨Tryz.prog,[(88,jX)]⟩
theorem Lv:∀ x,bf E9 CO none Tryz.f115 pZ x=pZ.m x:=by intro x;kernel_rfl
theorem Mw:az Tryz.prog 115:=ax (fn:=Tryz.f115) (by kernel_rfl) rfl (by decide)
theorem Mu:aK Tryz.prog 115 pZ:=aH (X:=E9) (.cons yf ym (.nil _)) (by kernel_rfl) pZ CO none (by kernel_rfl) (fun x y h=>(Lv x).trans h)
def E3:List (Nat×Ann):=[]
noncomputable def tv:aI:=⟨[.row 69 mE,.val tI,.val .str,.val aQ,.val aQ],[.row 69 mE],fun x=>ff x.1 x.2.1 x.2.2.1 x.2.2.2.1 x.2.2.2.2.1⟩
noncomputable def HT:Cx:=⟨Tryz.prog,[(115,pZ),(116,gG)]⟩
theorem Nn:∀ x,bf HT E3 none Tryz.f56 tv x=tv.m x:=by intro x;kernel_rfl
theorem OD:az Tryz.prog 56:=ax (fn:=Tryz.f56) (by kernel_rfl) rfl (by decide)
theorem OM:aK Tryz.prog 56 tv:=aH (X:=HT) (.cons Mu Mw (.cons si sP (.nil _))) (by kernel_rfl) tv E3 none (by kernel_rfl) (fun x y h=>(Nn x).trans h)
def EC:List (Nat×Ann):=[(19,⟨[(3,.ref 3 0),(8,.val .hnd),(12,.rowR 167184),(13,.mapR 77),(14,.mapR 78),(15,.own 9 .str),(79,.val (.slice bh)),(80,.val tI),(81,.val tI)],[(3,FF)],[.rowC 167184 69 mE,.mapC 77 .str bh,.mapC 78 .str bh,.ar bZ],aY _⟩),
 (25,⟨[(3,.ref 3 0),(12,.rowR 167184),(13,.mapR 77),(14,.mapR 78),(15,.own 9 .str),(96,.rowR 208144),(97,.val tI),(98,.val tI)],[(3,FF)],[.rowC 167184 69 mE,.rowC 208144 35 bh,.mapC 77 .str bh,.mapC 78 .str bh,.ar bZ],aY _⟩),
 (33,⟨[(12,.own 69 mE),(13,.mapR 77),(14,.mapR 78),(20,.ref 20 0),(118,.rowR 253200),(119,.val tI),(120,.val tI)],[(20,Ea)],[.rowC 253200 9 .str,.mapC 77 .str bh,.mapC 78 .str bh,.ar bZ],aY _⟩),
 (100037,⟨[(12,.own 69 mE),(13,.mapR 77),(14,.mapR 78),(20,.ref 20 0),(22,.val .str),(23,.ref 23 0),(118,.rowR 253200),(119,.val tI),(120,.val tI)],[(20,Ea),(23,[.val .str,.val tI,.val tI,.val tI,.val tI])],[.rowC 253200 9 .str,.mapC 77 .str bh,.mapC 78 .str bh,.ar bZ],fun _=>0⟩),
 (200019,⟨[(3,.ref 3 0),(8,.val .hnd),(12,.rowR 167184),(13,.mapR 77),(14,.mapR 78),(15,.own 9 .str)],[(3,FF)],[.rowC 167184 69 mE,.mapC 77 .str bh,.mapC 78 .str bh,.ar bZ],fun _=>0⟩),
 (200025,⟨[(3,.ref 3 0),(12,.rowR 167184),(13,.mapR 77),(14,.mapR 78),(15,.own 9 .str)],[(3,FF)],[.rowC 167184 69 mE,.mapC 77 .str bh,.mapC 78 .str bh,.ar bZ],fun _=>0⟩),
 (200033,⟨[(12,.own 69 mE)],[],[.ar bZ],fun _=>0⟩)]
noncomputable def s6:aI:=⟨[.val bT,.val zf,.val (.slice bh)],[.row 69 mE,.val tI],fun x=>sU x.1 x.2.1 x.2.2.1⟩
noncomputable def Ij:Cx:=⟨Tryz.prog,[(28,jh),(29,gI),(30,kz),(55,lN),(56,tv),(57,yF),(58,u0)]⟩
theorem NI:∀ x,bf Ij EC (some bZ) Tryz.f23 s6 x=s6.m x:=by intro x;kernel_rfl
theorem ON:az Tryz.prog 23:=ax (fn:=Tryz.f23) (by kernel_rfl) rfl (by decide)
theorem OR:aK Tryz.prog 23 s6:=aH (X:=Ij) (.cons wq wM (.cons sJ rZ (.cons BI BB (.cons Iy Iw (.cons OM OD (.cons GL FU (.cons DY DH (.nil _)))))))) (by kernel_rfl) s6 EC (some bZ) (by kernel_rfl) (fun x y h=>(NI x).trans h)
def F9:List (Nat×Ann):=[]
noncomputable def vA:aI:=⟨[.val tI,.val tI],[.val tI],fun x=>ER x.1 x.2.1⟩
noncomputable def IM:Cx:=⟨Tryz.prog,[]⟩
theorem OL:∀ x,bf IM F9 none Tryz.f24 vA x=vA.m x:=by intro x;kernel_rfl
theorem PI:az Tryz.prog 24:=ax (fn:=Tryz.f24) (by kernel_rfl) rfl (by decide)
theorem P6:aK Tryz.prog 24 vA:=aH (X:=IM) (.nil _) (by kernel_rfl) vA F9 none (by kernel_rfl) (fun x y h=>(OL x).trans h)
def qY:List (Nat×Ann):=[]
noncomputable def jP:aI:=⟨[.val bT,.val tI],[.val .bool],fun x=>lD x.1 x.2.1⟩
noncomputable def sY:Cx:=⟨Tryz.prog,[(9,s8),(12,rK),(14,vt),(23,s6),(24,vA)]⟩
theorem BY:∀ x,bf sY qY none Tryz.f7 jP x=jP.m x:=by intro x;kernel_rfl
theorem CA:aK Tryz.prog 7 jP:=aH (X:=sY) (.cons OF OP (.cons NN NQ (.cons Pu Qy (.cons OR ON (.cons P6 PI (.nil _)))))) (by kernel_rfl) jP qY none (by kernel_rfl) (fun x y h=>(BY x).trans h)
end Go.Proofs.SeatS
