/-
  Each function is as its model says. No condition.
-/
import Derived.Test.YtalfglakknbjkaaGreatDoorQn
import Derived.Test.YtalfglakknbjkaaGreatDoorQd
import Derived.Test.YtalfglakknbjkaaGreatDoorProg
import Derived.Shelf.Strings.SlTrimAscii
import Derived.Shelf.Small.Strs
set_option linter.all false
noncomputable section
namespace Go.Proofs
abbrev tpr:=Tryz.prog
end Go.Proofs
namespace Go.Proofs
open Go.Shelf
def Tryz.aeH:Go.Shelf.Ren:=⟨fun | 160=>94 | 232=>149 | 231=>148 | 227=>150 | 234=>152 | 233=>151 | 236=>154 | 235=>153 | 228=>198 | 271=>201 | 151=>200 | 197=>199 | 120=>226 | 152=>225 | 260=>224 | 137=>236 | 119=>237 | 224=>229 | 225=>228 | 217=>227 | 266=>238 | n=>n,fun | 9=>9 | 4=>4 | 3=>3 | 5=>5 | 117=>205 | 116=>204 | 0=>0 | 124=>208 | 21=>21 | 105=>243 | 46=>177 | 119=>275 | 139=>278 | 138=>277 | n=>n,fun | 3=>1 | 4=>2 | n=>n⟩
theorem Tryz.aiG:Go.Proofs.Lays.n160 Tryz.prog Tryz.aeH:={
 mixed:=by kernel_rfl
 f119:=Tryz.func237.trans (congrArg some (by kernel_rfl))
 f120:=Tryz.func226.trans (congrArg some (by kernel_rfl))
 f137:=Tryz.func236.trans (congrArg some (by kernel_rfl))
 f151:=Tryz.func200.trans (congrArg some (by kernel_rfl))
 f152:=Tryz.func225.trans (congrArg some (by kernel_rfl))
 f160:=Tryz.func94.trans (congrArg some (by kernel_rfl))
 f197:=Tryz.func199.trans (congrArg some (by kernel_rfl))
 f217:=Tryz.func227.trans (congrArg some (by kernel_rfl))
 f224:=Tryz.func229.trans (congrArg some (by kernel_rfl))
 f225:=Tryz.func228.trans (congrArg some (by kernel_rfl))
 f227:=Tryz.func150.trans (congrArg some (by kernel_rfl))
 f228:=Tryz.func198.trans (congrArg some (by kernel_rfl))
 f231:=Tryz.func148.trans (congrArg some (by kernel_rfl))
 f232:=Tryz.func149.trans (congrArg some (by kernel_rfl))
 f233:=Tryz.func151.trans (congrArg some (by kernel_rfl))
 f234:=Tryz.func152.trans (congrArg some (by kernel_rfl))
 f235:=Tryz.func153.trans (congrArg some (by kernel_rfl))
 f236:=Tryz.func154.trans (congrArg some (by kernel_rfl))
 f260:=Tryz.func224.trans (congrArg some (by kernel_rfl))
 f266:=Tryz.func238.trans (congrArg some (by kernel_rfl))
 f271:=Tryz.func201.trans (congrArg some (by kernel_rfl))
 t0:=Tryz.underlying0
 a0:=Tryz.isAgg0
 z0:=Tryz.sizeOf0
 v0:=Tryz.zeroValue0
 t3:=Tryz.underlying3
 a3:=Tryz.isAgg3
 z3:=Tryz.sizeOf3
 v3:=Tryz.zeroValue3
 t4:=Tryz.underlying4
 a4:=Tryz.isAgg4
 z4:=Tryz.sizeOf4
 v4:=Tryz.zeroValue4
 t5:=Tryz.underlying5
 a5:=Tryz.isAgg5
 z5:=Tryz.sizeOf5
 v5:=Tryz.zeroValue5
 t9:=Tryz.underlying9
 a9:=Tryz.isAgg9
 z9:=Tryz.sizeOf9
 v9:=Tryz.zeroValue9
 t21:=Tryz.underlying21
 a21:=Tryz.isAgg21
 z21:=Tryz.sizeOf21
 v21:=Tryz.zeroValue21
 t46:=Tryz.underlying177
 a46:=Tryz.isAgg177
 z46:=Tryz.sizeOf177
 v46:=Tryz.zeroValue177
 t105:=Tryz.underlying243
 a105:=Tryz.isAgg243
 z105:=Tryz.sizeOf243
 v105:=Tryz.zeroValue243
 t116:=Tryz.underlying204
 a116:=Tryz.isAgg204
 z116:=Tryz.sizeOf204
 t117:=Tryz.underlying205
 a117:=Tryz.isAgg205
 z117:=Tryz.sizeOf205
 v117:=Tryz.zeroValue205
 t119:=Tryz.underlying275
 a119:=Tryz.isAgg275
 z119:=Tryz.sizeOf275
 t124:=Tryz.underlying208
 a124:=Tryz.isAgg208
 z124:=Tryz.sizeOf208
 v124:=Tryz.zeroValue208
 t138:=Tryz.underlying277
 a138:=Tryz.isAgg277
 z138:=Tryz.sizeOf277
 v138:=Tryz.zeroValue277
 t139:=Tryz.underlying278
 a139:=Tryz.isAgg278
 z139:=Tryz.sizeOf278
 v139:=Tryz.zeroValue278
 g3:=by kernel_rfl
 g4:=by kernel_rfl }
def Tryz.adB:Go.Shelf.Ren:=⟨fun | 106=>185 | 213=>216 | 265=>233 | n=>n,fun | 9=>9 | 3=>3 | n=>n,fun | n=>n⟩
theorem Tryz.aiP:Go.Proofs.Lays.n106 Tryz.prog Tryz.adB:={
 mixed:=by kernel_rfl
 f106:=Tryz.func185.trans (congrArg some (by kernel_rfl))
 f213:=Tryz.func216.trans (congrArg some (by kernel_rfl))
 f265:=Tryz.func233.trans (congrArg some (by kernel_rfl))
 t3:=Tryz.underlying3
 a3:=Tryz.isAgg3
 z3:=Tryz.sizeOf3
 v3:=Tryz.zeroValue3
 t9:=Tryz.underlying9
 a9:=Tryz.isAgg9
 z9:=Tryz.sizeOf9
 v9:=Tryz.zeroValue9 }
end Go.Proofs
namespace Go.Proofs.SeatS
open Go.Dn Go.Md Go.Proofs Go.RowKit Go.Shelf Go.Lib
def Ei:aK:=⟨[.val .str,.val .str],[.val .str],fun x=>nO x.1 x.2.1⟩
theorem WU:aA tpr 94:=ay Tryz.func94 rfl (by decide)
theorem Wd:aM tpr 94 Ei:=by
 intro G w ow args x y hG how ha hm
 refine adK (P:=Tryz.prog) (f:=94) (m:=Ei.m) ?_ G w ow args x y hG how ha hm
 intro s c r w hm
 replace hm:nO s c=some (r,()):=hm
 unfold nO at hm
 cases hb:(decide (s.length≤9223372036854775807)&&(decide (c.length<4294967281)&&c.all fun b=>decide (b.toNat<128))) with
 | false=>rw[hb] at hm;cases hm
 | true=>
  rw[hb] at hm
  simp only[amE,Option.some.injEq,Prod.mk.injEq,and_true] at hm
  subst hm
  simp only[ajK,amI,akt] at hb
  have:=Any.strings_Trim_laid Tryz.aiG (by kernel_rfl) (bs s) (bs c) w (by simpa [bs,ByteArray.size] using hb.1) (by simpa [bs,ByteArray.size] using hb.2.1) (fun j b hj=>hb.2.2 b (alr (by simpa [bs] using hj)))
  change Calls Tryz.prog 94 _ _ _ at this
  simpa [bs] using this
def yc:aK:=⟨[.val .str,.val .str],[.val tI],fun x=>strings_Compare x.1 x.2.1⟩
theorem Rw:aA tpr 185:=ay Tryz.func185 rfl (by decide)
theorem Rh:aM tpr 185 yc:=by
 intro G w ow args x y hG how ha hm
 refine ahB (P:=Tryz.prog) (f:=185) (t:=tI) (m:=yc.m) ?_ G w ow args x y hG how ha hm
 intro s c r w hm
 replace hm:strings_Compare s c=some (r,()):=hm
 unfold strings_Compare at hm
 obtain rfl:Lib.compareBytes s c=r:=congrArg (fun o=>(Option.getD o (0,())).1) hm
 have:=Any.strings_Compare Tryz.aiP (bs s) (bs c) w
 refine⟨.int .i64 (Lib.compareBytes s c),fun G=> ?_,this.mono ?_⟩
 ·rfl
 ·rintro e w' ⟨he,rfl⟩
  exact⟨he,Below.refl _ _⟩
end Go.Proofs.SeatS
namespace Go.Proofs
open Go.Shelf
def Tryz.aei:Go.Shelf.Ren:=⟨fun | 190=>57 | 125=>118 | 258=>117 | 128=>175 | 129=>176 | 302=>166 | 303=>167 | 304=>168 | 305=>169 | 306=>170 | 307=>171 | 308=>172 | 309=>173 | 310=>174 | 333=>207 | 329=>208 | 330=>209 | 334=>210 | 335=>211 | 336=>212 | 344=>232 | n=>n,fun | 31=>58 | 9=>9 | 3=>3 | 46=>177 | 0=>0 | 51=>223 | 53=>225 | 4=>4 | 183=>216 | 182=>215 | 131=>144 | 5=>5 | 218=>249 | 222=>253 | 228=>269 | 229=>270 | n=>n,fun | n=>n⟩
theorem Tryz.aiW:Go.Proofs.Lays.n190 Tryz.prog Tryz.aei:={
 mixed:=by kernel_rfl
 f125:=Tryz.func118.trans (congrArg some (by kernel_rfl))
 f128:=Tryz.func175.trans (congrArg some (by kernel_rfl))
 f129:=Tryz.func176.trans (congrArg some (by kernel_rfl))
 f190:=Tryz.func57.trans (congrArg some (by kernel_rfl))
 f258:=Tryz.func117.trans (congrArg some (by kernel_rfl))
 f302:=Tryz.func166.trans (congrArg some (by kernel_rfl))
 f303:=Tryz.func167.trans (congrArg some (by kernel_rfl))
 f304:=Tryz.func168.trans (congrArg some (by kernel_rfl))
 f305:=Tryz.func169.trans (congrArg some (by kernel_rfl))
 f306:=Tryz.func170.trans (congrArg some (by kernel_rfl))
 f307:=Tryz.func171.trans (congrArg some (by kernel_rfl))
 f308:=Tryz.func172.trans (congrArg some (by kernel_rfl))
 f309:=Tryz.func173.trans (congrArg some (by kernel_rfl))
 f310:=Tryz.func174.trans (congrArg some (by kernel_rfl))
 f329:=Tryz.func208.trans (congrArg some (by kernel_rfl))
 f330:=Tryz.func209.trans (congrArg some (by kernel_rfl))
 f333:=Tryz.func207.trans (congrArg some (by kernel_rfl))
 f334:=Tryz.func210.trans (congrArg some (by kernel_rfl))
 f335:=Tryz.func211.trans (congrArg some (by kernel_rfl))
 f336:=Tryz.func212.trans (congrArg some (by kernel_rfl))
 f344:=Tryz.func232.trans (congrArg some (by kernel_rfl))
 t0:=Tryz.underlying0
 a0:=Tryz.isAgg0
 z0:=Tryz.sizeOf0
 v0:=Tryz.zeroValue0
 t3:=Tryz.underlying3
 a3:=Tryz.isAgg3
 z3:=Tryz.sizeOf3
 v3:=Tryz.zeroValue3
 t4:=Tryz.underlying4
 a4:=Tryz.isAgg4
 z4:=Tryz.sizeOf4
 v4:=Tryz.zeroValue4
 t5:=Tryz.underlying5
 a5:=Tryz.isAgg5
 z5:=Tryz.sizeOf5
 v5:=Tryz.zeroValue5
 t9:=Tryz.underlying9
 a9:=Tryz.isAgg9
 z9:=Tryz.sizeOf9
 v9:=Tryz.zeroValue9
 t31:=Tryz.underlying58
 a31:=Tryz.isAgg58
 z31:=Tryz.sizeOf58
 v31:=Tryz.zeroValue58
 t46:=Tryz.underlying177
 a46:=Tryz.isAgg177
 z46:=Tryz.sizeOf177
 v46:=Tryz.zeroValue177
 t51:=Tryz.underlying223
 a51:=Tryz.isAgg223
 z51:=Tryz.sizeOf223
 v51:=Tryz.zeroValue223
 t53:=Tryz.underlying225
 a53:=Tryz.isAgg225
 z53:=Tryz.sizeOf225
 v53:=Tryz.zeroValue225
 t131:=Tryz.underlying144
 a131:=Tryz.isAgg144
 z131:=Tryz.sizeOf144
 v131:=Tryz.zeroValue144
 t182:=Tryz.underlying215
 a182:=Tryz.isAgg215
 z182:=Tryz.sizeOf215
 v182:=Tryz.zeroValue215
 t183:=Tryz.underlying216
 a183:=Tryz.isAgg216
 z183:=Tryz.sizeOf216
 v183:=Tryz.zeroValue216
 t218:=Tryz.underlying249
 a218:=Tryz.isAgg249
 z218:=Tryz.sizeOf249
 v218:=Tryz.zeroValue249
 t222:=Tryz.underlying253
 a222:=Tryz.isAgg253
 z222:=Tryz.sizeOf253
 v222:=Tryz.zeroValue253
 t228:=Tryz.underlying269
 a228:=Tryz.isAgg269
 z228:=Tryz.sizeOf269
 v228:=Tryz.zeroValue269
 t229:=Tryz.underlying270
 a229:=Tryz.isAgg270
 z229:=Tryz.sizeOf270
 v229:=Tryz.zeroValue270 }
def Tryz.aea:Go.Shelf.Ren:=⟨fun | 194=>58 | n=>n,fun | 31=>58 | 9=>9 | 3=>3 | 4=>4 | 0=>0 | n=>n,fun | n=>n⟩
theorem Tryz.aiS:Go.Proofs.Lays.n194 Tryz.prog Tryz.aea:={
 mixed:=by kernel_rfl
 f194:=Tryz.func58.trans (congrArg some (by kernel_rfl))
 t0:=Tryz.underlying0
 a0:=Tryz.isAgg0
 z0:=Tryz.sizeOf0
 v0:=Tryz.zeroValue0
 t3:=Tryz.underlying3
 a3:=Tryz.isAgg3
 z3:=Tryz.sizeOf3
 v3:=Tryz.zeroValue3
 t4:=Tryz.underlying4
 a4:=Tryz.isAgg4
 z4:=Tryz.sizeOf4
 v4:=Tryz.zeroValue4
 t9:=Tryz.underlying9
 a9:=Tryz.isAgg9
 z9:=Tryz.sizeOf9
 v9:=Tryz.zeroValue9
 t31:=Tryz.underlying58
 a31:=Tryz.isAgg58
 z31:=Tryz.sizeOf58
 v31:=Tryz.zeroValue58 }
end Go.Proofs
namespace Go.Proofs.SeatS
open Go.Dn Go.Md Go.Proofs
def tu:aK:=⟨[.mrow 9 .str],[],fun x=>slices_Sort_string x.1⟩
theorem CP:aA tpr 57:=ay Tryz.func57 rfl (by decide)
theorem CQ:aM tpr 57 tu:=Yf Tryz.aiW
def pX:aK:=⟨[.row 9 .str],[.row 9 .str],fun x=>slices_Compact_string x.1⟩
theorem yG:aA tpr 58:=ay Tryz.func58 rfl (by decide)
theorem ye:aM tpr 58 pX:=Tx Tryz.aiS
end Go.Proofs.SeatS
namespace Go.Proofs
open Go.Shelf
def Tryz.ahp:Go.Shelf.Ren:=⟨fun | 4=>123 | n=>n,fun | 22=>27 | 25=>35 | 3=>3 | 4=>4 | 9=>9 | 20=>20 | 0=>0 | n=>n,fun | n=>n⟩
theorem Tryz.ajq:Go.Proofs.Lays8.n4 Tryz.prog Tryz.ahp:={
 mixed:=by kernel_rfl
 f4:=⟨Tryz.f123.name,by decide,Tryz.func123.trans (congrArg some (by kernel_rfl))⟩
 t0:=Tryz.underlying0
 a0:=Tryz.isAgg0
 z0:=Tryz.sizeOf0
 v0:=Tryz.zeroValue0
 t3:=Tryz.underlying3
 a3:=Tryz.isAgg3
 z3:=Tryz.sizeOf3
 v3:=Tryz.zeroValue3
 t4:=Tryz.underlying4
 a4:=Tryz.isAgg4
 z4:=Tryz.sizeOf4
 v4:=Tryz.zeroValue4
 t9:=Tryz.underlying9
 a9:=Tryz.isAgg9
 z9:=Tryz.sizeOf9
 v9:=Tryz.zeroValue9
 t20:=Tryz.underlying20
 a20:=Tryz.isAgg20
 z20:=Tryz.sizeOf20
 v20:=Tryz.zeroValue20
 t22:=Tryz.underlying27
 a22:=Tryz.isAgg27
 z22:=Tryz.sizeOf27
 v22:=Tryz.zeroValue27 }
end Go.Proofs
namespace Go.Proofs.SeatS
open Go.Dn Go.Md Go.Proofs
def xd:aK:=⟨[.row 35 aL,.val tI],[.row 35 aL],fun x=>rU x.1 x.2.1⟩
theorem Iz:aA tpr 123:=ay Tryz.func123 rfl (by decide)
theorem IN:aM tpr 123 xd:=aiO Tryz.ajq (t:=aL) (i0:=Tryz.t35) (z:= .agg #[.string ⟨#[]⟩,.int .i64 0,.int .i64 0,.int .i64 0,.int .i64 0]) (by kernel_rfl) (by kernel_rfl) (by decide) (by kernel_rfl) (by kernel_rfl)
end Go.Proofs.SeatS
set_option maxRecDepth 100000
namespace Go.Proofs.SeatS
open Go.Dn Go.Md Go.Proofs
theorem aJ:Tryz.prog.follows .mixedOrders=true:=by kernel_rfl
def aQ (X:Cx) (anns:List (Nat×Ann)) (ar:Option Ty) (fn:Func) (sp:aK):Prop:=∀ x,Sk X anns ar fn sp x=sp.m x
theorem aI {X:Cx} {anns:List (Nat×Ann)} {ar:Option Ty} {fn:Func} {sp:aK} (h:aQ X anns ar fn sp) (hX:gw X) (hm:X.P.follows .mixedOrders=true) {f:FuncId} (hf:X.P.funcs[f]? =some fn):aM X.P f sp:=agD hX hm sp anns ar hf fun x _ e=>(h x).trans e
def zL:List CK:=[.own 3 tI,.own 3 tI,.own 78 (.slice tI),.own 3 tI,.own 3 tI,.own 3 tI,.own 4 .bool,.val tI,.val tI,.val tI,.val tI,.val tI]
def afD:List CK:=[.own 3 tI,.own 3 tI,.own 78 (.slice tI),.val (.slice tI),.own 3 tI,.own 3 tI,.own 4 .bool,.val tI,.val tI,.val tI,.val tI,.val tI]
def agl:List CK:=[.own 3 tI,.rowR 25,.own 78 (.slice tI),.own 3 tI,.own 3 tI,.own 3 tI,.rowR 29,.val tI,.val tI,.val tI,.val tI,.val tI]
def I9:List CK:=[.rowR 10250001,.rowR 10250002,.rowR 10250003,.rowR 10250004,.rowR 10250005,.rowR 10250006,.rowR 10250007,.val tI,.val tI,.val tI,.val tI,.val tI]
def Ay:List CK:=[.val .bool,.own 223 (.int .u32)]
def iV:List CK:=[.val .bool,.own 3 tI]
def XG:List CK:=[.val .bool,.rowR 24]
def kX:List CK:=[.val .bool,.val (.slice (.int .u32))]
def mB:List CK:=[.val .bool,.val (.slice tI)]
def YA:List CK:=[.val .bool,.val tI,.val tI,.val .str]
def aaM:List CK:=[.val .str,.val .str,.val tI,.val tI,.val tI,.val .bool,.own 94 cg,.own 97 b7,.own 102 bK]
def aiu:List CK:=[.val .str,.val .str,.val tI,.val tI,.val tI,.val .bool,.val (.slice cg),.rowR 109840,.val (.slice bK)]
def aip:List CK:=[.val .str,.val .str,.val tI,.val tI,.val tI,.val .bool,.val (.slice cg),.rowR 43,.val (.slice bK)]
def aim:List CK:=[.val .str,.val .str,.val tI,.val tI,.val tI,.val .bool,.val (.slice cg),.val (.slice b7),.val (.slice bK),.own 135 av,.rowR 19,.rowR 10250004,.own 186 dh,.rowR 10250006,.rowR 21,.rowR 10250008]
def aaW:List CK:=[.val .str,.val .str,.val tI,.val tI,.val tI,.val .bool,.val (.slice cg),.val (.slice b7),.val (.slice bK),.own 135 av,.val (.slice av),.own 135 av,.own 186 dh,.own 135 av,.own 4 .bool,.own 135 av]
def SI:List CK:=[.val .str,.val .str,.val tI,.val tI,.val tI,.val .bool,.val (.slice cg),.val (.slice b7),.val (.slice bK),.rowR 10250002,.val (.slice av),.rowR 10250004,.rowR 10250005,.rowR 10250006,.rowR 10250007,.rowR 10250008]
def aaK:List CK:=[.val .str,.val .str,.val tI,.val tI,.val tI,.val .bool,.val (.slice cg),.val (.slice b7),.val (.slice bK),.rowR 10250002,.val (.slice av),.rowR 10250004,.rowR 10250005,.rowR 10250006,.rowR 10250007,.rowR 13]
def dF:List CK:=[.val .str,.val .str,.val tI,.val tI,.val tI,.val .bool,.val (.slice cg),.val (.slice b7),.val (.slice bK)]
def WT:List CK:=[.val .str,.val tI,.val tI,.val tI,.val tI]
def aaU:List CK:=[.val tI,.val tI,.val tI,.val (.slice .str)]
def Iq:List CK:=[.val tI,.val tI,.val tI,.val tI,.val tI,.val tI,.val tI,.val tI,.val tI,.val tI]
def mG:List CK:=[.val tI,.val tI]
def kO:aK:=⟨[.val .str],[.val .bool],fun x=>gd x.1⟩
noncomputable def aac:Cx:=⟨tpr,[(94,Ei)]⟩
theorem Yv:aQ aac [] none Tryz.f38 kO:=by intro x;kernel_rfl
theorem oB:aA tpr 38:=ay Tryz.func38 rfl (by decide)
theorem oz:aM tpr 38 kO:=aI Yv (.cons Wd WU (.nil _)) aJ Tryz.func38
def gN:aK:=⟨[.val tI,.val tI,.val tI],[.val .bool],fun x=>cD x.1 x.2.1 x.2.2.1⟩
noncomputable def Yo:Cx:=⟨tpr,[]⟩
theorem Xi:aQ Yo [] none Tryz.f39 gN:=by intro x;kernel_rfl
theorem jz:aA tpr 39:=ay Tryz.func39 rfl (by decide)
theorem jw:aM tpr 39 gN:=aI Xi (.nil _) aJ Tryz.func39
def yg:aK:=⟨[.val tI],[.val .bool],fun x=>CY x.1⟩
noncomputable def adp:Cx:=⟨tpr,[(39,gN)]⟩
theorem ZO:aQ adp [] none Tryz.f50 yg:=by intro x;kernel_rfl
theorem Ks:aA tpr 50:=ay Tryz.func50 rfl (by decide)
theorem JG:aM tpr 50 yg:=aI ZO (.cons jw jz (.nil _)) aJ Tryz.func50
def DK:aK:=⟨[.val tI],[.val .bool],fun x=>Kk x.1⟩
noncomputable def Wi:Cx:=⟨tpr,[(39,gN)]⟩
theorem UN:aQ Wi [] none Tryz.f90 DK:=by intro x;kernel_rfl
theorem Wl:aA tpr 90:=ay Tryz.func90 rfl (by decide)
theorem VN:aM tpr 90 DK:=aI UN (.cons jw jz (.nil _)) aJ Tryz.func90
def dy:aK:=⟨[.val aN],[.val tI],fun x=>cl x.1⟩
noncomputable def LW:Cx:=⟨tpr,[(39,gN)]⟩
theorem KF:aQ LW [] none Tryz.f102 dy:=by intro x;kernel_rfl
theorem gu:aA tpr 102:=ay Tryz.func102 rfl (by decide)
theorem gv:aM tpr 102 dy:=aI KF (.cons jw jz (.nil _)) aJ Tryz.func102
def WC:List (Nat×Ann):=[(3,⟨[(3,.val tI),(4,.val tI),(5,.val tI)],[],[],aT _⟩),
 (200003,⟨[(3,.val tI)],[],[],fun _=>0⟩)]
def vO:aK:=⟨[.val tI],[.val tI],fun x=>yX x.1⟩
noncomputable def aaB:Cx:=⟨tpr,[]⟩
theorem XA:aQ aaB WC none Tryz.f160 vO:=by intro x;kernel_rfl
theorem Hz:aA tpr 160:=ay Tryz.func160 rfl (by decide)
theorem HD:aM tpr 160 vO:=aI XA (.nil _) aJ Tryz.func160
def nX:aK:=⟨[.val aN,.val tI],[.val .bool],fun x=>fJ x.1 x.2.1⟩
noncomputable def Wz:Cx:=⟨tpr,[(39,gN),(160,vO)]⟩
theorem Uv:aQ Wz [] none Tryz.f103 nX:=by intro x;kernel_rfl
theorem wX:aA tpr 103:=ay Tryz.func103 rfl (by decide)
theorem w8:aM tpr 103 nX:=aI Uv (.cons jw jz (.cons HD Hz (.nil _))) aJ Tryz.func103
def OP:List (Nat×Ann):=[(6,⟨[(0,.val (.slice cg)),(12,.val (.slice cg)),(13,.val tI),(14,.val tI)],[],[],aT _⟩),
 (200006,⟨[],[],[],fun _=>0⟩)]
def xM:aK:=⟨[.val (.slice cg)],[.val tI],fun x=>n7 x.1⟩
noncomputable def Ss:Cx:=⟨tpr,[(38,kO),(102,dy),(103,nX)]⟩
theorem Qi:aQ Ss OP none Tryz.f91 xM:=by intro x;kernel_rfl
theorem RO:aA tpr 91:=ay Tryz.func91 rfl (by decide)
theorem RD:aM tpr 91 xM:=aI Qi (.cons oz oB (.cons gv gu (.cons w8 wX (.nil _)))) aJ Tryz.func91
def UQ:List (Nat×Ann):=[(3,⟨[(3,.val tI),(4,.val tI),(5,.val tI)],[],[],aT _⟩),
 (200003,⟨[(3,.val tI)],[],[],fun _=>0⟩)]
def FL:aK:=⟨[.val tI],[.val tI],fun x=>Mj x.1⟩
noncomputable def Xu:Cx:=⟨tpr,[]⟩
theorem Xf:aQ Xu UQ none Tryz.f223 FL:=by intro x;kernel_rfl
theorem Xo:aA tpr 223:=ay Tryz.func223 rfl (by decide)
theorem XL:aM tpr 223 FL:=aI Xf (.nil _) aJ Tryz.func223
def DU:aK:=⟨[.val aN,.val tI,.val tI],[.val .bool],fun x=>Km x.1 x.2.1 x.2.2.1⟩
noncomputable def VH:Cx:=⟨tpr,[(223,FL)]⟩
theorem Vy:aQ VH [] none Tryz.f197 DU:=by intro x;kernel_rfl
theorem WY:aA tpr 197:=ay Tryz.func197 rfl (by decide)
theorem VL:aM tpr 197 DU:=aI Vy (.cons XL Xo (.nil _)) aJ Tryz.func197
def wJ:aK:=⟨[.val aN],[.val tI],fun x=>pI x.1⟩
noncomputable def Qe:Cx:=⟨tpr,[(102,dy),(197,DU)]⟩
theorem Of:aQ Qe [] none Tryz.f146 wJ:=by intro x;kernel_rfl
theorem PY:aA tpr 146:=ay Tryz.func146 rfl (by decide)
theorem Qf:aM tpr 146 wJ:=aI Of (.cons gv gu (.cons VL WY (.nil _))) aJ Tryz.func146
def CE:aK:=⟨[.val cg,.val .str],[.val tI],fun x=>Hs x.1 x.2.1⟩
noncomputable def Vr:Cx:=⟨tpr,[(185,yc)]⟩
theorem TN:aQ Vr [] none Tryz.f184 CE:=by intro x;kernel_rfl
theorem Uw:aA tpr 184:=ay Tryz.func184 rfl (by decide)
theorem Vc:aM tpr 184 CE:=aI TN (.cons Rh Rw (.nil _)) aJ Tryz.func184
def rO:List (Nat×Ann):=[(3,⟨[(0,.val (.slice cg)),(1,.val .str),(2,.val (.clo 184 .unit)),(8,.val tI),(9,.val tI),(10,.val tI)],[],[],aT _⟩),
 (200003,⟨[(0,.val (.slice cg)),(1,.val .str),(2,.val (.clo 184 .unit)),(8,.val tI),(9,.val tI)],[],[],fun _=>0⟩)]
def gK:aK:=⟨[.val (.slice cg),.val .str,.val (.clo 184 .unit)],[.val tI,.val .bool],fun x=>eE x.1 x.2.1 x.2.2.1⟩
noncomputable def tZ:Cx:=⟨tpr,[(184,CE)]⟩
theorem sw:aQ tZ rO none Tryz.f183 gK:=by intro x;kernel_rfl
theorem uc:aA tpr 183:=ay Tryz.func183 rfl (by decide)
theorem tw:aM tpr 183 gK:=aI sw (.cons Vc Uw (.nil _)) aJ Tryz.func183
def tP:aK:=⟨[.val (.slice cg),.val .str],[.val tI,.val .bool],fun x=>si x.1 x.2.1⟩
noncomputable def XD:Cx:=⟨tpr,[(183,gK)]⟩
theorem W7:aQ XD [] none Tryz.f124 tP:=by intro x;kernel_rfl
theorem FN:aA tpr 124:=ay Tryz.func124 rfl (by decide)
theorem FC:aM tpr 124 tP:=aI W7 (.cons tw uc (.nil _)) aJ Tryz.func124
def wY:aK:=⟨[.val bB,.val .str],[.val .bool],fun x=>kD x.1 x.2.1⟩
noncomputable def W9:Cx:=⟨tpr,[(124,tP)]⟩
theorem Uq:aQ W9 [] none Tryz.f147 wY:=by intro x;kernel_rfl
theorem K6:aA tpr 147:=ay Tryz.func147 rfl (by decide)
theorem K5:aM tpr 147 wY:=aI Uq (.cons FC FN (.nil _)) aJ Tryz.func147
def Ny:List (Nat×Ann):=[(4,⟨[(2,.val .bool),(3,.ref 3 0),(13,.val (.slice bK)),(14,.val tI),(15,.val tI)],[(3,dF)],[],aT _⟩),
 (100012,⟨[(2,.val .bool),(3,.ref 3 0),(8,.ref 8 0),(13,.val (.slice bK)),(14,.val tI),(15,.val tI),(30,.val .bool)],[(3,dF),(8,YA)],[],fun _=>0⟩),
 (200004,⟨[],[],[],fun _=>0⟩)]
def qd:aK:=⟨[.val bB,.val (.slice bK),.val .bool],[.val tI],fun x=>kW x.1 x.2.1 x.2.2.1⟩
noncomputable def PL:Cx:=⟨tpr,[(102,dy),(103,nX),(147,wY)]⟩
theorem NN:aQ PL Ny none Tryz.f93 qd:=by intro x;kernel_rfl
theorem EN:aA tpr 93:=ay Tryz.func93 rfl (by decide)
theorem ER:aM tpr 93 qd:=aI NN (.cons gv gu (.cons w8 wX (.cons K5 K6 (.nil _)))) aJ Tryz.func93
def Ah:aK:=⟨[.val bB,.val tI],[.val tI],fun x=>tL x.1 x.2.1⟩
noncomputable def TW:Cx:=⟨tpr,[(38,kO),(39,gN),(93,qd),(102,dy),(103,nX),(146,wJ),(147,wY)]⟩
theorem Rj:aQ TW [] none Tryz.f92 Ah:=by intro x;kernel_rfl
theorem Te:aA tpr 92:=ay Tryz.func92 rfl (by decide)
theorem Th:aM tpr 92 Ah:=aI Rj (.cons oz oB (.cons jw jz (.cons ER EN (.cons gv gu (.cons w8 wX (.cons Qf PY (.cons K5 K6 (.nil _)))))))) aJ Tryz.func92
def Mg:List (Nat×Ann):=[(15,⟨[(1,.ref 1 0),(48,.val tI),(49,.val tI)],[(1,dF)],[],aT _⟩),
 (200015,⟨[(1,.ref 1 0)],[(1,dF)],[],fun _=>0⟩)]
def oT:aK:=⟨[.val bB],[.val tI],fun x=>mh x.1⟩
noncomputable def OH:Cx:=⟨tpr,[(38,kO),(39,gN),(50,yg),(90,DK),(91,xM),(92,Ah),(93,qd)]⟩
theorem Nb:aQ OH Mg none Tryz.f37 oT:=by intro x;kernel_rfl
theorem EC:aA tpr 37:=ay Tryz.func37 rfl (by decide)
theorem Ej:aM tpr 37 oT:=aI Nb (.cons oz oB (.cons jw jz (.cons JG Ks (.cons VN Wl (.cons RD RO (.cons Th Te (.cons ER EN (.nil _)))))))) aJ Tryz.func37
def Sl:List (Nat×Ann):=[(1,⟨[(0,.val (.slice (.int .u32)))],[],[],aT _⟩),
 (200001,⟨[(0,.val (.slice (.int .u32)))],[],[],fun _=>0⟩)]
def pV:aK:=⟨[.val (.slice (.int .u32))],[.val (.slice (.int .u32))],fun x=>qE x.1⟩
noncomputable def Vf:Cx:=⟨tpr,[]⟩
theorem TM:aQ Vf Sl none Tryz.f190 pV:=by intro x;kernel_rfl
theorem Cp:aA tpr 190:=ay Tryz.func190 rfl (by decide)
theorem Ce:aM tpr 190 pV:=aI TM (.nil _) aJ Tryz.func190
def mw:aK:=⟨[.val .bool,.val (.slice (.int .u32))],[.val av],fun x=>jy x.1 x.2.1⟩
noncomputable def ZZ:Cx:=⟨tpr,[(190,pV)]⟩
theorem XP:aQ ZZ [] none Tryz.f132 mw:=by intro x;kernel_rfl
theorem qA:aA tpr 132:=ay Tryz.func132 rfl (by decide)
theorem qB:aM tpr 132 mw:=aI XP (.cons Ce Cp (.nil _)) aJ Tryz.func132
def aan:List (Nat×Ann):=[(100003,⟨[(0,.val tI),(2,.ref 2 0),(3,.val (.int .u64))],[(2,Ay)],[],fun _=>0⟩)]
def iF:aK:=⟨[.val tI],[.val av],fun x=>bN x.1⟩
noncomputable def aeb:Cx:=⟨tpr,[(132,mw)]⟩
theorem ada:aQ aeb aan none Tryz.f127 iF:=by intro x;kernel_rfl
theorem kJ:aA tpr 127:=ay Tryz.func127 rfl (by decide)
theorem kz:aM tpr 127 iF:=aI ada (.cons qB qA (.nil _)) aJ Tryz.func127
def OA:List (Nat×Ann):=[(3,⟨[(2,.ref 2 0),(3,.ref 3 0),(4,.ref 4 0),(5,.rowR 18),(20,.val (.slice (.int .u32))),(21,.val tI),(22,.val tI)],[(2,kX),(3,kX),(4,Ay)],[.rowC 18 223 (.int .u32)],aT _⟩),
 (7,⟨[(2,.ref 2 0),(3,.ref 3 0),(4,.ref 4 0),(5,.rowR 18),(6,.val tI),(7,.val (.int .u32)),(8,.val (.int .u64)),(20,.val (.slice (.int .u32))),(21,.val tI),(22,.val tI),(28,.val (.slice (.int .u32))),(29,.val tI),(30,.val tI)],[(2,kX),(3,kX),(4,Ay)],[.rowC 18 223 (.int .u32)],aT _⟩),
 (200003,⟨[(2,.ref 2 0),(3,.ref 3 0),(4,.ref 4 0),(5,.rowR 18)],[(2,kX),(3,kX),(4,Ay)],[.rowC 18 223 (.int .u32)],fun _=>0⟩),
 (200007,⟨[(2,.ref 2 0),(3,.ref 3 0),(4,.ref 4 0),(5,.rowR 18),(6,.val tI),(8,.val (.int .u64)),(20,.val (.slice (.int .u32))),(21,.val tI),(22,.val tI)],[(2,kX),(3,kX),(4,Ay)],[.rowC 18 223 (.int .u32)],fun _=>0⟩)]
def ji:aK:=⟨[.val av,.val av],[.val av],fun x=>fM x.1 x.2.1⟩
noncomputable def RP:Cx:=⟨tpr,[(132,mw)]⟩
theorem Qk:aQ RP OA none Tryz.f143 ji:=by intro x;kernel_rfl
theorem nR:aA tpr 143:=ay Tryz.func143 rfl (by decide)
theorem nT:aM tpr 143 ji:=aI Qk (.cons qB qA (.nil _)) aJ Tryz.func143
def UC:List (Nat×Ann):=[(3,⟨[(2,.ref 2 0),(3,.ref 3 0),(5,.val tI),(6,.val tI)],[(2,Ay),(3,kX)],[],aT _⟩),
 (200003,⟨[(2,.ref 2 0),(3,.ref 3 0)],[(2,Ay),(3,kX)],[],fun _=>0⟩)]
def tj:aK:=⟨[.val tI],[.val av],fun x=>o7 x.1⟩
noncomputable def Yb:Cx:=⟨tpr,[(127,iF),(143,ji)]⟩
theorem WV:aQ Yb UC none Tryz.f144 tj:=by intro x;kernel_rfl
theorem E7:aA tpr 144:=ay Tryz.func144 rfl (by decide)
theorem Fj:aM tpr 144 tj:=aI WV (.cons kz kJ (.cons nT nR (.nil _))) aJ Tryz.func144
def Yd:List (Nat×Ann):=[(6,⟨[(1,.val (.slice (.int .u32))),(5,.own 223 (.int .u32)),(6,.val (.int .u64)),(20,.val (.slice (.int .u32))),(21,.val tI),(22,.val tI)],[],[],aT _⟩),
 (100002,⟨[(0,.val (.slice (.int .u32))),(1,.val (.slice (.int .u32)))],[],[],fun _=>0⟩),
 (100010,⟨[(1,.val (.slice (.int .u32))),(5,.own 223 (.int .u32)),(6,.val (.int .u64)),(20,.val (.slice (.int .u32))),(21,.val tI),(22,.val tI)],[],[],fun _=>0⟩),
 (200006,⟨[(5,.own 223 (.int .u32)),(6,.val (.int .u64))],[],[],fun _=>0⟩)]
def Jg:aK:=⟨[.val (.slice (.int .u32)),.val (.slice (.int .u32))],[.row 223 (.int .u32)],fun x=>GX x.1 x.2.1⟩
noncomputable def aa2:Cx:=⟨tpr,[]⟩
theorem aaz:aQ aa2 Yd none Tryz.f133 Jg:=by intro x;kernel_rfl
theorem abX:aA tpr 133:=ay Tryz.func133 rfl (by decide)
theorem acf:aM tpr 133 Jg:=aI aaz (.nil _) aJ Tryz.func133
def Va:List (Nat×Ann):=[(6,⟨[(1,.val (.slice (.int .u32))),(5,.own 223 (.int .u32)),(6,.val (.int .u64)),(20,.val (.slice (.int .u32))),(21,.val tI),(22,.val tI)],[],[],aT _⟩),
 (100002,⟨[(0,.val (.slice (.int .u32))),(1,.val (.slice (.int .u32)))],[],[],fun _=>0⟩),
 (100010,⟨[(1,.val (.slice (.int .u32))),(5,.own 223 (.int .u32)),(6,.val (.int .u64)),(20,.val (.slice (.int .u32))),(21,.val tI),(22,.val tI)],[],[],fun _=>0⟩),
 (200006,⟨[(5,.own 223 (.int .u32)),(6,.val (.int .u64))],[],[],fun _=>0⟩)]
def FF:aK:=⟨[.val (.slice (.int .u32)),.val (.slice (.int .u32))],[.val (.slice (.int .u32))],fun x=>LS x.1 x.2.1⟩
noncomputable def X9:Cx:=⟨tpr,[]⟩
theorem WI:aQ X9 Va none Tryz.f133 FF:=by intro x;kernel_rfl
theorem XX:aA tpr 133:=ay Tryz.func133 rfl (by decide)
theorem Xt:aM tpr 133 FF:=aI WI (.nil _) aJ Tryz.func133
def Su:List (Nat×Ann):=[(4,⟨[(0,.val (.slice (.int .u32))),(1,.val (.slice (.int .u32))),(5,.val tI)],[],[],aT _⟩),
 (200004,⟨[],[],[],fun _=>0⟩)]
def vj:aK:=⟨[.val (.slice (.int .u32)),.val (.slice (.int .u32))],[.val tI],fun x=>vI x.1 x.2.1⟩
noncomputable def Vk:Cx:=⟨tpr,[]⟩
theorem TF:aQ Vk Su none Tryz.f134 vj:=by intro x;kernel_rfl
theorem Ja:aA tpr 134:=ay Tryz.func134 rfl (by decide)
theorem J5:aM tpr 134 vj:=aI TF (.nil _) aJ Tryz.func134
def Xk:List (Nat×Ann):=[(4,⟨[(1,.val (.slice (.int .u32))),(5,.own 223 (.int .u32)),(6,.val (.int .u64)),(13,.val (.slice (.int .u32))),(14,.val tI),(15,.val tI)],[],[],aT _⟩),
 (100008,⟨[(1,.val (.slice (.int .u32))),(5,.own 223 (.int .u32)),(9,.val (.int .u64)),(13,.val (.slice (.int .u32))),(14,.val tI),(15,.val tI)],[],[],fun _=>0⟩),
 (200004,⟨[(5,.own 223 (.int .u32))],[],[],fun _=>0⟩)]
def BH:aK:=⟨[.val (.slice (.int .u32)),.val (.slice (.int .u32))],[.val (.slice (.int .u32))],fun x=>zi x.1 x.2.1⟩
noncomputable def ZJ:Cx:=⟨tpr,[(190,pV)]⟩
theorem XF:aQ ZJ Xk none Tryz.f135 BH:=by intro x;kernel_rfl
theorem PB:aA tpr 135:=ay Tryz.func135 rfl (by decide)
theorem PG:aM tpr 135 BH:=aI XF (.cons Ce Cp (.nil _)) aJ Tryz.func135
def Tz:List (Nat×Ann):=[(4,⟨[(2,.ref 2 0),(3,.ref 3 0),(4,.ref 4 0),(5,.ref 5 0),(6,.rowR 12),(7,.val (.slice (.int .u32))),(8,.val tI)],[(2,kX),(3,kX),(4,Ay),(5,Ay)],[.rowC 12 223 (.int .u32)],aT _⟩),
 (200004,⟨[(4,.ref 4 0),(5,.ref 5 0),(6,.rowR 12),(7,.val (.slice (.int .u32)))],[(4,Ay),(5,Ay)],[.rowC 12 223 (.int .u32)],fun _=>0⟩)]
def rD:aK:=⟨[.val av,.val av],[.val av,.val av],fun x=>tC x.1 x.2.1⟩
noncomputable def WK:Cx:=⟨tpr,[(132,mw),(133,Jg),(134,vj),(135,BH),(190,pV)]⟩
theorem Ux:aQ WK Tz none Tryz.f195 rD:=by intro x;kernel_rfl
theorem DL:aA tpr 195:=ay Tryz.func195 rfl (by decide)
theorem Ee:aM tpr 195 rD:=aI Ux (.cons qB qA (.cons acf abX (.cons J5 Ja (.cons PG PB (.cons Ce Cp (.nil _)))))) aJ Tryz.func195
def mm:aK:=⟨[.val av],[.val tI],fun x=>aS x.1⟩
noncomputable def Tc:Cx:=⟨tpr,[]⟩
theorem Rr:aQ Tc [] none Tryz.f158 mm:=by intro x;kernel_rfl
theorem sN:aA tpr 158:=ay Tryz.func158 rfl (by decide)
theorem sH:aM tpr 158 mm:=aI Rr (.nil _) aJ Tryz.func158
def dY:aK:=⟨[.val av,.val av],[.val av],fun x=>bC x.1 x.2.1⟩
noncomputable def TO:Cx:=⟨tpr,[(132,mw),(133,FF),(134,vj),(135,BH)]⟩
theorem Qq:aQ TO [] none Tryz.f71 dY:=by intro x;kernel_rfl
theorem gD:aA tpr 71:=ay Tryz.func71 rfl (by decide)
theorem gG:aM tpr 71 dY:=aI Qq (.cons qB qA (.cons Xt XX (.cons J5 Ja (.cons PG PB (.nil _))))) aJ Tryz.func71
def nS:aK:=⟨[.val av],[.val av],fun x=>aR x.1⟩
noncomputable def RT:Cx:=⟨tpr,[(132,mw)]⟩
theorem PN:aQ RT [] none Tryz.f159 nS:=by intro x;kernel_rfl
theorem yy:aA tpr 159:=ay Tryz.func159 rfl (by decide)
theorem yd:aM tpr 159 nS:=aI PN (.cons qB qA (.nil _)) aJ Tryz.func159
def Ad:aK:=⟨[.val av,.val av],[.val av],fun x=>zg x.1 x.2.1⟩
noncomputable def Tq:Cx:=⟨tpr,[(71,dY),(159,nS)]⟩
theorem Qw:aQ Tq [] none Tryz.f165 Ad:=by intro x;kernel_rfl
theorem TB:aA tpr 165:=ay Tryz.func165 rfl (by decide)
theorem Tf:aM tpr 165 Ad:=aI Qw (.cons gG gD (.cons yd yy (.nil _))) aJ Tryz.func165
def mc:aK:=⟨[.val av,.val av],[.val tI],fun x=>mj x.1 x.2.1⟩
noncomputable def NI:Cx:=⟨tpr,[(158,mm),(165,Ad)]⟩
theorem Nq:aQ NI [] none Tryz.f116 mc:=by intro x;kernel_rfl
theorem uT:aA tpr 116:=ay Tryz.func116 rfl (by decide)
theorem uN:aM tpr 116 mc:=aI Nq (.cons sH sN (.cons Tf TB (.nil _))) aJ Tryz.func116
def Cy:aK:=⟨[.val av],[.val .bool],fun x=>gI x.1⟩
noncomputable def UA:Cx:=⟨tpr,[]⟩
theorem S8:aQ UA [] none Tryz.f196 Cy:=by intro x;kernel_rfl
theorem U8:aA tpr 196:=ay Tryz.func196 rfl (by decide)
theorem Uu:aM tpr 196 Cy:=aI S8 (.nil _) aJ Tryz.func196
def sV:aK:=⟨[.val av,.val av,.val tI],[.val av],fun x=>uk x.1 x.2.1 x.2.2.1⟩
noncomputable def Tk:Cx:=⟨tpr,[(71,dY),(116,mc),(127,iF),(158,mm),(159,nS),(195,rD),(196,Cy)]⟩
theorem Qv:aQ Tk [] none Tryz.f145 sV:=by intro x;kernel_rfl
theorem H7:aA tpr 145:=ay Tryz.func145 rfl (by decide)
theorem H9:aM tpr 145 sV:=aI Qv (.cons gG gD (.cons uN uT (.cons kz kJ (.cons sH sN (.cons yd yy (.cons Ee DL (.cons Uu U8 (.nil _)))))))) aJ Tryz.func145
def Rs:List (Nat×Ann):=[(5,⟨[(1,.val tI),(2,.ref 2 0),(6,.val (.int .u64)),(14,.val (.slice (.int .u32))),(15,.val tI),(16,.val tI)],[(2,kX)],[],aT _⟩),
 (200005,⟨[(1,.val tI),(2,.ref 2 0),(6,.val (.int .u64))],[(2,kX)],[],fun _=>0⟩)]
def nh:aK:=⟨[.val av,.val tI],[.val tI,.val .bool],fun x=>oF x.1 x.2.1⟩
noncomputable def Uy:Cx:=⟨tpr,[]⟩
theorem Tw:aQ Uy Rs none Tryz.f137 nh:=by intro x;kernel_rfl
theorem uR:aA tpr 137:=ay Tryz.func137 rfl (by decide)
theorem uJ:aM tpr 137 nh:=aI Tw (.nil _) aJ Tryz.func137
def l9:aK:=⟨[.val av],[.val .bool],fun x=>ke x.1⟩
noncomputable def abV:Cx:=⟨tpr,[(137,nh)]⟩
theorem aaq:aQ abV [] none Tryz.f74 l9:=by intro x;kernel_rfl
theorem pZ:aA tpr 74:=ay Tryz.func74 rfl (by decide)
theorem pq:aM tpr 74 l9:=aI aaq (.cons uJ uR (.nil _)) aJ Tryz.func74
def HQ:aK:=⟨[.val bB,.val b7],[.val av,.val .bool],fun x=>Ig x.1 x.2.1⟩
noncomputable def aat:Cx:=⟨tpr,[(74,l9),(127,iF),(143,ji),(144,tj),(145,sV)]⟩
theorem Xv:aQ aat [] none Tryz.f87 HQ:=by intro x;kernel_rfl
theorem Zt:aA tpr 87:=ay Tryz.func87 rfl (by decide)
theorem ZS:aM tpr 87 HQ:=aI Xv (.cons pq pZ (.cons kz kJ (.cons nT nR (.cons Fj E7 (.cons H9 H7 (.nil _)))))) aJ Tryz.func87
def pU:aK:=⟨[.val aN,.val tI],[.val av],fun x=>ou x.1 x.2.1⟩
noncomputable def Vw:Cx:=⟨tpr,[(127,iF),(143,ji),(144,tj)]⟩
theorem Tg:aQ Vw [] none Tryz.f88 pU:=by intro x;kernel_rfl
theorem Cr:aA tpr 88:=ay Tryz.func88 rfl (by decide)
theorem Cg:aM tpr 88 pU:=aI Tg (.cons kz kJ (.cons nT nR (.cons Fj E7 (.nil _)))) aJ Tryz.func88
def yw:aK:=⟨[.val bB,.val av,.val aN],[.val av],fun x=>rj x.1 x.2.1 x.2.2.1⟩
noncomputable def ab0:Cx:=⟨tpr,[(127,iF),(143,ji),(144,tj),(145,sV)]⟩
theorem aaD:aQ ab0 [] none Tryz.f89 yw:=by intro x;kernel_rfl
theorem JX:aA tpr 89:=ay Tryz.func89 rfl (by decide)
theorem JR:aM tpr 89 yw:=aI aaD (.cons kz kJ (.cons nT nR (.cons Fj E7 (.cons H9 H7 (.nil _))))) aJ Tryz.func89
def ZV:List (Nat×Ann):=[(4,⟨[(2,.ref 2 0),(4,.ref 4 0),(6,.ref 6 0),(7,.val .bool),(8,.ref 8 0),(20,.val (.slice bK)),(21,.val tI),(22,.val tI)],[(2,dF),(4,Ay),(6,kX),(8,kX)],[],aT _⟩),
 (100008,⟨[(2,.ref 2 0),(4,.ref 4 0),(6,.ref 6 0),(7,.val .bool),(8,.ref 8 0),(11,.ref 11 0),(20,.val (.slice bK)),(21,.val tI),(22,.val tI)],[(2,dF),(4,Ay),(6,kX),(8,kX),(11,kX)],[],fun _=>0⟩),
 (200004,⟨[(4,.ref 4 0),(7,.val .bool),(8,.ref 8 0)],[(4,Ay),(8,kX)],[],fun _=>0⟩)]
def Mp:aK:=⟨[.val bB,.val b7],[.val av,.val .bool],fun x=>Ph x.1 x.2.1⟩
noncomputable def aed:Cx:=⟨tpr,[(71,dY),(74,l9),(87,HQ),(88,pU),(89,yw)]⟩
theorem abv:aQ aed ZV none Tryz.f36 Mp:=by intro x;kernel_rfl
theorem aeO:aA tpr 36:=ay Tryz.func36 rfl (by decide)
theorem adA:aM tpr 36 Mp:=aI abv (.cons gG gD (.cons pq pZ (.cons ZS Zt (.cons Cg Cr (.cons JR JX (.nil _)))))) aJ Tryz.func36
def qw:aK:=⟨[.val av],[.val .bool],fun x=>u6 x.1⟩
noncomputable def Kz:Cx:=⟨tpr,[(74,l9)]⟩
theorem JU:aQ Kz [] none Tryz.f125 qw:=by intro x;kernel_rfl
theorem KM:aA tpr 125:=ay Tryz.func125 rfl (by decide)
theorem Kx:aM tpr 125 qw:=aI JU (.cons pq pZ (.nil _)) aJ Tryz.func125
def tq:aK:=⟨[.val av],[.val .bool],fun x=>x9 x.1⟩
noncomputable def NB:Cx:=⟨tpr,[(74,l9)]⟩
theorem Mz:aQ NB [] none Tryz.f130 tq:=by intro x;kernel_rfl
theorem MG:aA tpr 130:=ay Tryz.func130 rfl (by decide)
theorem ML:aM tpr 130 tq:=aI Mz (.cons pq pZ (.nil _)) aJ Tryz.func130
def wH:aK:=⟨[.val av],[.val .bool],fun x=>CI x.1⟩
noncomputable def Qn:Cx:=⟨tpr,[(74,l9)]⟩
theorem Ou:aQ Qn [] none Tryz.f131 wH:=by intro x;kernel_rfl
theorem P8:aA tpr 131:=ay Tryz.func131 rfl (by decide)
theorem PT:aM tpr 131 wH:=aI Ou (.cons pq pZ (.nil _)) aJ Tryz.func131
def rN:aK:=⟨[.val av],[.val .bool],fun x=>wA x.1⟩
noncomputable def Mc:Cx:=⟨tpr,[(74,l9)]⟩
theorem KA:aQ Mc [] none Tryz.f73 rN:=by intro x;kernel_rfl
theorem Mo:aA tpr 73:=ay Tryz.func73 rfl (by decide)
theorem Ls:aM tpr 73 rN:=aI KA (.cons pq pZ (.nil _)) aJ Tryz.func73
def Dc:List (Nat×Ann):=[(2,⟨[(0,.val (.slice av)),(1,.val (.clo 125 .unit)),(7,.val tI),(8,.val tI)],[],[],aT _⟩),
 (200002,⟨[],[],[],fun _=>0⟩)]
def mA:aK:=⟨[.val (.slice av),.val (.clo 125 .unit)],[.val tI],fun x=>om x.1 x.2.1⟩
noncomputable def EG:Cx:=⟨tpr,[(125,qw)]⟩
theorem DH:aQ EG Dc none Tryz.f136 mA:=by intro x;kernel_rfl
theorem EK:aA tpr 136:=ay Tryz.func136 rfl (by decide)
theorem EJ:aM tpr 136 mA:=aI DH (.cons Kx KM (.nil _)) aJ Tryz.func136
def Az:List (Nat×Ann):=[(2,⟨[(0,.val (.slice av)),(1,.val (.clo 130 .unit)),(7,.val tI),(8,.val tI)],[],[],aT _⟩),
 (200002,⟨[],[],[],fun _=>0⟩)]
def lF:aK:=⟨[.val (.slice av),.val (.clo 130 .unit)],[.val tI],fun x=>ni x.1 x.2.1⟩
noncomputable def Da:Cx:=⟨tpr,[(130,tq)]⟩
theorem Co:aQ Da Az none Tryz.f136 lF:=by intro x;kernel_rfl
theorem De:aA tpr 136:=ay Tryz.func136 rfl (by decide)
theorem Dm:aM tpr 136 lF:=aI Co (.cons ML MG (.nil _)) aJ Tryz.func136
def AI:List (Nat×Ann):=[(2,⟨[(0,.val (.slice av)),(1,.val (.clo 131 .unit)),(7,.val tI),(8,.val tI)],[],[],aT _⟩),
 (200002,⟨[],[],[],fun _=>0⟩)]
def lI:aK:=⟨[.val (.slice av),.val (.clo 131 .unit)],[.val tI],fun x=>mW x.1 x.2.1⟩
noncomputable def Dd:Cx:=⟨tpr,[(131,wH)]⟩
theorem Cd:aQ Dd AI none Tryz.f136 lI:=by intro x;kernel_rfl
theorem Dp:aA tpr 136:=ay Tryz.func136 rfl (by decide)
theorem Dl:aM tpr 136 lI:=aI Cd (.cons PT P8 (.nil _)) aJ Tryz.func136
def AN:List (Nat×Ann):=[(2,⟨[(0,.val (.slice av)),(1,.val (.clo 73 .unit)),(7,.val tI),(8,.val tI)],[],[],aT _⟩),
 (200002,⟨[],[],[],fun _=>0⟩)]
def lK:aK:=⟨[.val (.slice av),.val (.clo 73 .unit)],[.val tI],fun x=>mV x.1 x.2.1⟩
noncomputable def Di:Cx:=⟨tpr,[(73,rN)]⟩
theorem CL:aQ Di AN none Tryz.f136 lK:=by intro x;kernel_rfl
theorem Df:aA tpr 136:=ay Tryz.func136 rfl (by decide)
theorem Db:aM tpr 136 lK:=aI CL (.cons Ls Mo (.nil _)) aJ Tryz.func136
def kV:aK:=⟨[.val (.slice av),.val (.clo 125 .unit)],[.val .bool],fun x=>jf x.1 x.2.1⟩
noncomputable def Cm:Cx:=⟨tpr,[(136,mA)]⟩
theorem AS:aQ Cm [] none Tryz.f72 kV:=by intro x;kernel_rfl
theorem Cq:aA tpr 72:=ay Tryz.func72 rfl (by decide)
theorem Cl:aM tpr 72 kV:=aI AS (.cons EJ EK (.nil _)) aJ Tryz.func72
def jJ:aK:=⟨[.val (.slice av),.val (.clo 130 .unit)],[.val .bool],fun x=>b6 x.1 x.2.1⟩
noncomputable def Ac:Cx:=⟨tpr,[(136,lF)]⟩
theorem zx:aQ Ac [] none Tryz.f72 jJ:=by intro x;kernel_rfl
theorem Ap:aA tpr 72:=ay Tryz.func72 rfl (by decide)
theorem zN:aM tpr 72 jJ:=aI zx (.cons Dm De (.nil _)) aJ Tryz.func72
def jQ:aK:=⟨[.val (.slice av),.val (.clo 131 .unit)],[.val .bool],fun x=>iD x.1 x.2.1⟩
noncomputable def z1:Cx:=⟨tpr,[(136,lI)]⟩
theorem zH:aQ z1 [] none Tryz.f72 jQ:=by intro x;kernel_rfl
theorem zQ:aA tpr 72:=ay Tryz.func72 rfl (by decide)
theorem z8:aM tpr 72 jQ:=aI zH (.cons Dl Dp (.nil _)) aJ Tryz.func72
def jN:aK:=⟨[.val (.slice av),.val (.clo 73 .unit)],[.val .bool],fun x=>iE x.1 x.2.1⟩
noncomputable def zU:Cx:=⟨tpr,[(136,lK)]⟩
theorem zD:aQ zU [] none Tryz.f72 jN:=by intro x;kernel_rfl
theorem zZ:aA tpr 72:=ay Tryz.func72 rfl (by decide)
theorem zX:aM tpr 72 jN:=aI zD (.cons Db Df (.nil _)) aJ Tryz.func72
def oW:aK:=⟨[.val (.slice av)],[.row 135 av],fun x=>nr x.1⟩
noncomputable def IG:Cx:=⟨tpr,[]⟩
theorem HC:aQ IG [] none Tryz.f126 oW:=by intro x;kernel_rfl
theorem II:aA tpr 126:=ay Tryz.func126 rfl (by decide)
theorem Ii:aM tpr 126 oW:=aI HC (.nil _) aJ Tryz.func126
def KJ:List (Nat×Ann):=[(4,⟨[(0,.ref 2000 0),(30,.val (.slice b7)),(31,.val tI),(32,.val tI)],[(2000,aim)],[.rowC 19 135 av,.rowC 21 4 .bool,.rowC 10250004 135 av,.rowC 10250006 135 av,.rowC 10250008 135 av],aT _⟩),
 (200004,⟨[(0,.ref 2000 0)],[(2000,aim)],[.rowC 19 135 av,.rowC 21 4 .bool,.rowC 10250004 135 av,.rowC 10250006 135 av,.rowC 10250008 135 av],fun _=>0⟩)]
def tO:aK:=⟨[.box [.val bB,.row 135 av,.val (.slice av),.row 135 av,.row 186 dh,.row 135 av,.row 4 .bool,.row 135 av]],[.val tI],fun x=>nW x.1⟩
noncomputable def Nj:Cx:=⟨tpr,[(36,Mp),(71,dY),(72,kV),(124,tP),(126,oW)]⟩
theorem MC:aQ Nj KJ none Tryz.f67 tO:=by intro x;kernel_rfl
theorem MT:aA tpr 67:=ay Tryz.func67 rfl (by decide)
theorem MQ:aM tpr 67 tO:=aI MC (.cons adA aeO (.cons gG gD (.cons Cl Cq (.cons FC FN (.cons Ii II (.nil _)))))) aJ Tryz.func67
def p7:aK:=⟨[.box [.val bB,.row 135 av,.val (.slice av),.row 135 av,.row 186 dh,.row 135 av,.row 4 .bool,.row 135 av],.val tI,.val av],[],fun x=>gm x.1 x.2.1 x.2.2.1⟩
noncomputable def Qa:Cx:=⟨tpr,[(71,dY)]⟩
theorem On:aQ Qa [] none Tryz.f128 p7:=by intro x;kernel_rfl
theorem EL:aA tpr 128:=ay Tryz.func128 rfl (by decide)
theorem EP:aM tpr 128 p7:=aI On (.cons gG gD (.nil _)) aJ Tryz.func128
def Ch:aK:=⟨[.val av],[.val av],fun x=>BP x.1⟩
noncomputable def U9:Cx:=⟨tpr,[(132,mw)]⟩
theorem Ti:aQ U9 [] none Tryz.f186 Ch:=by intro x;kernel_rfl
theorem Vz:aA tpr 186:=ay Tryz.func186 rfl (by decide)
theorem Vg:aM tpr 186 Ch:=aI Ti (.cons qB qA (.nil _)) aJ Tryz.func186
def sk:aK:=⟨[.val tI],[.val .bool],fun x=>wE x.1⟩
noncomputable def LH:Cx:=⟨tpr,[]⟩
theorem KC:aQ LH [] none Tryz.f188 sk:=by intro x;kernel_rfl
theorem Lw:aA tpr 188:=ay Tryz.func188 rfl (by decide)
theorem Mv:aM tpr 188 sk:=aI KC (.nil _) aJ Tryz.func188
def Iy:List (Nat×Ann):=[(2,⟨[(0,.val (.slice tI)),(1,.val (.clo 188 .unit)),(7,.val tI),(8,.val tI)],[],[],aT _⟩),
 (200002,⟨[],[],[],fun _=>0⟩)]
def qq:aK:=⟨[.val (.slice tI),.val (.clo 188 .unit)],[.val tI],fun x=>uF x.1 x.2.1⟩
noncomputable def Ky:Cx:=⟨tpr,[(188,sk)]⟩
theorem Kc:aQ Ky Iy none Tryz.f217 qq:=by intro x;kernel_rfl
theorem KG:aA tpr 217:=ay Tryz.func217 rfl (by decide)
theorem KK:aM tpr 217 qq:=aI Kc (.cons Mv Lw (.nil _)) aJ Tryz.func217
def ox:aK:=⟨[.val (.slice tI),.val (.clo 188 .unit)],[.val .bool],fun x=>jE x.1 x.2.1⟩
noncomputable def HT:Cx:=⟨tpr,[(217,qq)]⟩
theorem GV:aQ HT [] none Tryz.f187 ox:=by intro x;kernel_rfl
theorem Ht:aA tpr 187:=ay Tryz.func187 rfl (by decide)
theorem Ho:aM tpr 187 ox:=aI GV (.cons KK KG (.nil _)) aJ Tryz.func187
def uf:aK:=⟨[.val av,.val tI],[.val aN,.val tI],fun x=>rP x.1 x.2.1⟩
noncomputable def X5:Cx:=⟨tpr,[(137,nh)]⟩
theorem WE:aQ X5 [] none Tryz.f86 uf:=by intro x;kernel_rfl
theorem FD:aA tpr 86:=ay Tryz.func86 rfl (by decide)
theorem Fl:aM tpr 86 uf:=aI WE (.cons uJ uR (.nil _)) aJ Tryz.func86
def J9:List (Nat×Ann):=[(7,⟨[(3,.val tI),(12,.val (.slice tI)),(13,.val tI),(14,.val tI)],[],[],aT _⟩),
 (200007,⟨[(3,.val tI)],[],[],fun _=>0⟩)]
def rT:aK:=⟨[.val (.slice tI)],[.val tI],fun x=>qh x.1⟩
noncomputable def LB:Cx:=⟨tpr,[(39,gN)]⟩
theorem KL:aQ LB J9 none Tryz.f218 rT:=by intro x;kernel_rfl
theorem Ma:aA tpr 218:=ay Tryz.func218 rfl (by decide)
theorem Mb:aM tpr 218 rT:=aI KL (.cons jw jz (.nil _)) aJ Tryz.func218
def qK:aK:=⟨[.val bw,.val bw],[.val tI],fun x=>me x.1 x.2.1⟩
noncomputable def Rv:Cx:=⟨tpr,[(116,mc)]⟩
theorem P7:aQ Rv [] none Tryz.f220 qK:=by intro x;kernel_rfl
theorem He:aA tpr 220:=ay Tryz.func220 rfl (by decide)
theorem GU:aM tpr 220 qK:=aI P7 (.cons uN uT (.nil _)) aJ Tryz.func220
def rz:List (Nat×Ann):=[(1,⟨[(0,.rowR 10250000),(1,.val tI),(2,.val tI),(3,.val (.clo 220 .unit)),(8,.val tI)],[],[.rowC 10250000 261 bw],aT _⟩),
 (4,⟨[(0,.rowR 10250000),(1,.val tI),(2,.val tI),(3,.val (.clo 220 .unit)),(8,.val tI),(9,.val tI)],[],[.rowC 10250000 261 bw],aT _⟩),
 (200001,⟨[],[],[.rowC 10250000 261 bw],fun _=>0⟩),
 (200004,⟨[(0,.rowR 10250000),(1,.val tI),(2,.val tI),(3,.val (.clo 220 .unit)),(8,.val tI)],[],[.rowC 10250000 261 bw],fun _=>0⟩)]
def gz:aK:=⟨[.mrow 261 bw,.val tI,.val tI,.val (.clo 220 .unit)],[],fun x=>cS x.1 x.2.1 x.2.2.1 x.2.2.2.1⟩
noncomputable def sr:Cx:=⟨tpr,[(220,qK)]⟩
theorem rZ:aQ sr rz none Tryz.f241 gz:=by intro x;kernel_rfl
theorem sB:aA tpr 241:=ay Tryz.func241 rfl (by decide)
theorem su:aM tpr 241 gz:=aI rZ (.cons GU He (.nil _)) aJ Tryz.func241
def uo:List (Nat×Ann):=[(1,⟨[(0,.rowR 10250000),(1,.val tI),(2,.val tI),(3,.val tI),(10,.val tI)],[],[.rowC 10250000 261 bw],aT _⟩),
 (200001,⟨[],[],[.rowC 10250000 261 bw],fun _=>0⟩)]
def iB:aK:=⟨[.mrow 261 bw,.val tI,.val tI,.val tI,.val (.clo 220 .unit)],[],fun x=>cE x.1 x.2.1 x.2.2.1 x.2.2.2.1 x.2.2.2.2.1⟩
noncomputable def vt:Cx:=⟨tpr,[]⟩
theorem vm:aQ vt uo none Tryz.f244 iB:=by intro x;kernel_rfl
theorem vB:aA tpr 244:=ay Tryz.func244 rfl (by decide)
theorem vR:aM tpr 244 iB:=aI vm (.nil _) aJ Tryz.func244
def wL:List (Nat×Ann):=[(2,⟨[(0,.rowR 10250000),(2,.val tI),(4,.val (.clo 220 .unit)),(10,.val tI),(11,.val tI)],[],[.rowC 10250000 261 bw],aT _⟩),
 (200002,⟨[(0,.rowR 10250000),(2,.val tI),(4,.val (.clo 220 .unit)),(10,.val tI)],[],[.rowC 10250000 261 bw],fun _=>0⟩)]
def jl:aK:=⟨[.mrow 261 bw,.val tI,.val tI,.val tI,.val (.clo 220 .unit)],[],fun x=>gV x.1 x.2.1 x.2.2.1 x.2.2.2.1 x.2.2.2.2.1⟩
noncomputable def xX:Cx:=⟨tpr,[(244,iB)]⟩
theorem xw:aQ xX wL none Tryz.f243 jl:=by intro x;kernel_rfl
theorem yR:aA tpr 243:=ay Tryz.func243 rfl (by decide)
theorem yJ:aM tpr 243 jl:=aI xw (.cons vR vB (.nil _)) aJ Tryz.func243
def lR:List (Nat×Ann):=[(3,⟨[(0,.rowR 10250000),(1,.val tI),(4,.val (.clo 220 .unit)),(10,.val tI),(11,.val tI)],[],[.rowC 10250000 261 bw],aT _⟩),
 (9,⟨[(0,.rowR 10250000),(10,.val tI),(13,.val tI)],[],[.rowC 10250000 261 bw],aT _⟩),
 (15,⟨[(0,.rowR 10250000),(2,.val tI),(4,.val (.clo 220 .unit)),(14,.val tI),(15,.val tI)],[],[.rowC 10250000 261 bw],aT _⟩),
 (21,⟨[(0,.rowR 10250000),(14,.val tI),(17,.val tI)],[],[.rowC 10250000 261 bw],aT _⟩),
 (33,⟨[(0,.rowR 10250000),(1,.val tI),(2,.val tI),(3,.val tI),(4,.val (.clo 220 .unit)),(18,.val tI),(19,.val tI),(20,.val tI),(21,.val tI),(22,.val tI)],[],[.rowC 10250000 261 bw],aT _⟩),
 (100030,⟨[(0,.rowR 10250000),(1,.val tI),(2,.val tI),(3,.val tI),(4,.val (.clo 220 .unit)),(18,.val tI),(19,.val tI),(20,.val tI),(21,.val tI)],[],[.rowC 10250000 261 bw],fun _=>0⟩),
 (100040,⟨[(0,.rowR 10250000),(1,.val tI),(3,.val tI),(4,.val (.clo 220 .unit)),(18,.val tI),(20,.val tI),(24,.val tI)],[],[.rowC 10250000 261 bw],fun _=>0⟩),
 (100042,⟨[(0,.rowR 10250000),(3,.val tI),(4,.val (.clo 220 .unit)),(18,.val tI),(24,.val tI)],[],[.rowC 10250000 261 bw],fun _=>0⟩),
 (200003,⟨[(0,.rowR 10250000),(1,.val tI),(10,.val tI)],[],[.rowC 10250000 261 bw],fun _=>0⟩),
 (200009,⟨[],[],[.rowC 10250000 261 bw],fun _=>0⟩),
 (200015,⟨[(0,.rowR 10250000),(2,.val tI),(14,.val tI)],[],[.rowC 10250000 261 bw],fun _=>0⟩),
 (200021,⟨[],[],[.rowC 10250000 261 bw],fun _=>0⟩),
 (200033,⟨[(0,.rowR 10250000),(1,.val tI),(2,.val tI),(3,.val tI),(4,.val (.clo 220 .unit)),(18,.val tI),(19,.val tI),(20,.val tI)],[],[.rowC 10250000 261 bw],fun _=>0⟩)]
def bS:List PM:=[.mrow 261 bw,.val tI,.val tI,.val tI,.val (.clo 220 .unit)]
def cw:List RM:=[]
noncomputable def mo:List (Nat×aK):=[(220,qK),(243,jl)]
def mL:aK:=⟨bS,cw,fun x=>dO x.1 x.2.1 x.2.2.1 x.2.2.2.1 x.2.2.2.2.1⟩
theorem vV:∀ (self:gU bS→Option (dX bS cw)) (x:gU bS),Sk ⟨tpr,(242,⟨bS,cw,self⟩)::mo⟩ lR none Tryz.f242 ⟨bS,cw,fun x=>cc self x.1 x.2.1 x.2.2.1 x.2.2.2.1 x.2.2.2.2.1⟩ x=cc self x.1 x.2.1 x.2.2.1 x.2.2.2.1 x.2.2.2.2.1:=by intro self x;kernel_rfl
theorem mR:aA tpr 242:=ay Tryz.func242 rfl (by decide)
theorem wq:aM tpr 242 mL:=T9 (ps:=bS) (rs:=cw) (m:=fun n x=>FI (fun self x=>cc self x.1 x.2.1 x.2.2.1 x.2.2.2.1 x.2.2.2.2.1) n x) (Oa (P:=Tryz.prog) (specs:=mo) (ps:=bS) (rs:=cw) (.cons GU He (.cons yJ yR (.nil _))) (by kernel_rfl) (fun self x=>cc self x.1 x.2.1 x.2.2.1 x.2.2.2.1 x.2.2.2.2.1) lR none (by kernel_rfl) mR vV) (fun x=>iw x.1 x.2.1 x.2.2.1 x.2.2.2.1 x.2.2.2.2.1)
def wB:List (Nat×Ann):=[(2,⟨[(0,.rowR 10250000),(1,.val tI),(2,.val (.clo 220 .unit)),(6,.val tI),(7,.val tI),(8,.val tI)],[],[.rowC 10250000 261 bw],aT _⟩),
 (7,⟨[(0,.rowR 10250000),(1,.val tI),(2,.val (.clo 220 .unit)),(6,.val tI)],[],[.rowC 10250000 261 bw],aT _⟩),
 (9,⟨[(0,.rowR 10250000),(1,.val tI),(2,.val (.clo 220 .unit)),(6,.val tI),(7,.val tI),(8,.val tI)],[],[.rowC 10250000 261 bw],aT _⟩),
 (200002,⟨[(0,.rowR 10250000),(1,.val tI),(2,.val (.clo 220 .unit)),(6,.val tI),(7,.val tI)],[],[.rowC 10250000 261 bw],fun _=>0⟩),
 (200007,⟨[],[],[.rowC 10250000 261 bw],fun _=>0⟩),
 (200009,⟨[(0,.rowR 10250000),(1,.val tI),(2,.val (.clo 220 .unit)),(6,.val tI),(7,.val tI)],[],[.rowC 10250000 261 bw],fun _=>0⟩)]
def jh:aK:=⟨[.mrow 261 bw,.val tI,.val (.clo 220 .unit)],[],fun x=>ku x.1 x.2.1 x.2.2.1⟩
noncomputable def xT:Cx:=⟨tpr,[(241,gz),(242,mL)]⟩
theorem xq:aQ xT wB none Tryz.f234 jh:=by intro x;kernel_rfl
theorem x7:aA tpr 234:=ay Tryz.func234 rfl (by decide)
theorem xL:aM tpr 234 jh:=aI xq (.cons su sB (.cons wq mR (.nil _))) aJ Tryz.func234
def iP:aK:=⟨[.mrow 261 bw,.val (.clo 220 .unit)],[],fun x=>dW x.1 x.2.1⟩
noncomputable def xm:Cx:=⟨tpr,[(234,jh)]⟩
theorem wO:aQ xm [] none Tryz.f219 iP:=by intro x;kernel_rfl
theorem xA:aA tpr 219:=ay Tryz.func219 rfl (by decide)
theorem xD:aM tpr 219 iP:=aI wO (.cons xL x7 (.nil _)) aJ Tryz.func219
def RJ:List (Nat×Ann):=[(9,⟨[(1,.val (.slice tI)),(2,.ref 2 0),(8,.val tI),(33,.val (.slice tI)),(34,.val tI),(35,.val tI)],[(2,mG)],[],aT _⟩),
 (17,⟨[(2,.ref 2 0),(8,.val tI),(11,.val tI),(12,.val tI),(13,.own 261 bw),(50,.val (.slice tI)),(51,.val tI),(52,.val tI)],[(2,mG)],[],aT _⟩),
 (27,⟨[(2,.ref 2 0),(12,.val tI),(20,.rowR 88),(89,.own 261 bw),(90,.val tI),(91,.val tI)],[(2,mG)],[.rowC 88 33 aN],aT _⟩),
 (100030,⟨[(2,.ref 2 0),(12,.val tI),(20,.rowR 88),(22,.ref 22 0),(89,.own 261 bw),(90,.val tI),(91,.val tI)],[(2,mG),(22,[.val tI,.val tI,.val .bool,.val (.slice (.int .u32))])],[.rowC 88 33 aN],fun _=>0⟩),
 (100032,⟨[(2,.ref 2 0),(12,.val tI),(20,.rowR 88),(22,.ref 22 0),(89,.own 261 bw),(90,.val tI),(91,.val tI)],[(2,mG),(22,[.val tI,.val tI,.val .bool,.val (.slice (.int .u32))])],[.rowC 88 33 aN],fun _=>0⟩),
 (200009,⟨[(1,.val (.slice tI)),(2,.ref 2 0),(8,.val tI)],[(2,mG)],[],fun _=>0⟩),
 (200017,⟨[(2,.ref 2 0),(12,.val tI),(13,.own 261 bw)],[(2,mG)],[],fun _=>0⟩),
 (200027,⟨[(20,.rowR 88)],[],[.rowC 88 33 aN],fun _=>0⟩)]
def CH:aK:=⟨[.val aN,.val (.slice tI)],[.val (.slice aN),.val tI],fun x=>vw x.1 x.2.1⟩
noncomputable def Ut:Cx:=⟨tpr,[(102,dy),(127,iF),(137,nh),(143,ji),(195,rD),(218,rT),(219,iP)]⟩
theorem TT:aQ Ut RJ none Tryz.f189 CH:=by intro x;kernel_rfl
theorem UF:aA tpr 189:=ay Tryz.func189 rfl (by decide)
theorem UT:aM tpr 189 CH:=aI TT (.cons gv gu (.cons kz kJ (.cons uJ uR (.cons nT nR (.cons Ee DL (.cons Mb Ma (.cons xD xA (.nil _)))))))) aJ Tryz.func189
def L8:List (Nat×Ann):=[(4,⟨[(0,.ref 2000 0),(3,.ref 3 0),(5,.own 3 tI),(6,.val .bool),(20,.val (.slice av)),(21,.val tI),(22,.val tI)],[(3,kX),(2000,SI)],[.rowC 10250002 135 av,.rowC 10250004 135 av,.rowC 10250005 186 dh,.rowC 10250006 135 av,.rowC 10250007 4 .bool,.rowC 10250008 135 av],aT _⟩),
 (21,⟨[(0,.ref 2000 0),(84,.val (.slice aN)),(85,.val tI),(86,.val tI)],[(2000,aaW)],[],aT _⟩),
 (200004,⟨[(0,.ref 2000 0),(3,.ref 3 0),(5,.own 3 tI),(6,.val .bool)],[(3,kX),(2000,SI)],[.rowC 10250002 135 av,.rowC 10250004 135 av,.rowC 10250005 186 dh,.rowC 10250006 135 av,.rowC 10250007 4 .bool,.rowC 10250008 135 av],fun _=>0⟩),
 (200021,⟨[],[(2000,aaW)],[],fun _=>0⟩)]
def uD:aK:=⟨[.box [.val bB,.row 135 av,.val (.slice av),.row 135 av,.row 186 dh,.row 135 av,.row 4 .bool,.row 135 av],.val av],[.val tI],fun x=>iH x.1 x.2.1⟩
noncomputable def Pd:Cx:=⟨tpr,[(86,uf),(127,iF),(128,p7),(137,nh),(158,mm),(186,Ch),(187,ox),(189,CH)]⟩
theorem Nn:aQ Pd L8 none Tryz.f129 uD:=by intro x;kernel_rfl
theorem Od:aA tpr 129:=ay Tryz.func129 rfl (by decide)
theorem N8:aM tpr 129 uD:=aI Nn (.cons Fl FD (.cons kz kJ (.cons EP EL (.cons uJ uR (.cons sH sN (.cons Vg Vz (.cons Ho Ht (.cons UT UF (.nil _))))))))) aJ Tryz.func129
def MP:List (Nat×Ann):=[(6,⟨[(0,.ref 2000 0),(3,.ref 3 0),(5,.ref 5 0),(6,.val tI),(7,.val .bool),(35,.val (.slice av)),(36,.val tI),(37,.val tI)],[(3,YA),(5,kX),(2000,SI)],[.rowC 10250002 135 av,.rowC 10250004 135 av,.rowC 10250005 186 dh,.rowC 10250006 135 av,.rowC 10250007 4 .bool,.rowC 10250008 135 av],aT _⟩),
 (100005,⟨[(0,.ref 2000 0),(3,.ref 3 0),(5,.ref 5 0),(6,.val tI),(7,.val .bool)],[(3,YA),(5,kX),(2000,SI)],[.rowC 10250002 135 av,.rowC 10250004 135 av,.rowC 10250005 186 dh,.rowC 10250006 135 av,.rowC 10250007 4 .bool,.rowC 10250008 135 av],fun _=>0⟩),
 (100012,⟨[(0,.ref 2000 0),(6,.val tI),(7,.val .bool),(10,.ref 10 0)],[(10,kX),(2000,SI)],[.rowC 10250002 135 av,.rowC 10250004 135 av,.rowC 10250005 186 dh,.rowC 10250006 135 av,.rowC 10250007 4 .bool,.rowC 10250008 135 av],fun _=>0⟩),
 (200006,⟨[(0,.ref 2000 0),(3,.ref 3 0),(5,.ref 5 0),(6,.val tI),(7,.val .bool)],[(3,YA),(5,kX),(2000,SI)],[.rowC 10250002 135 av,.rowC 10250004 135 av,.rowC 10250005 186 dh,.rowC 10250006 135 av,.rowC 10250007 4 .bool,.rowC 10250008 135 av],fun _=>0⟩)]
def wD:aK:=⟨[.box [.val bB,.row 135 av,.val (.slice av),.row 135 av,.row 186 dh,.row 135 av,.row 4 .bool,.row 135 av],.val bK],[.val tI],fun x=>nj x.1 x.2.1⟩
noncomputable def PJ:Cx:=⟨tpr,[(71,dY),(72,jJ),(74,l9),(88,pU),(89,yw),(124,tP),(127,iF),(128,p7),(129,uD)]⟩
theorem O6:aQ PJ MP none Tryz.f68 wD:=by intro x;kernel_rfl
theorem P5:aA tpr 68:=ay Tryz.func68 rfl (by decide)
theorem Qc:aM tpr 68 wD:=aI O6 (.cons gG gD (.cons zN Ap (.cons pq pZ (.cons Cg Cr (.cons JR JX (.cons FC FN (.cons kz kJ (.cons EP EL (.cons N8 Od (.nil _)))))))))) aJ Tryz.func68
def PK:List (Nat×Ann):=[(3,⟨[(0,.ref 2000 0),(20,.val (.slice cg)),(21,.val tI),(22,.val tI)],[(2000,aaK)],[.rowC 13 135 av,.rowC 10250002 135 av,.rowC 10250004 135 av,.rowC 10250005 186 dh,.rowC 10250006 135 av,.rowC 10250007 4 .bool],aT _⟩),
 (9,⟨[(0,.ref 2000 0),(57,.rowR 10250005),(58,.val tI),(59,.val tI)],[(2000,aaK)],[.rowC 13 135 av,.rowC 10250002 135 av,.rowC 10250004 135 av,.rowC 10250005 186 dh,.rowC 10250006 135 av,.rowC 10250007 4 .bool],aT _⟩),
 (200003,⟨[(0,.ref 2000 0)],[(2000,aaK)],[.rowC 13 135 av,.rowC 10250002 135 av,.rowC 10250004 135 av,.rowC 10250005 186 dh,.rowC 10250006 135 av,.rowC 10250007 4 .bool],fun _=>0⟩),
 (200009,⟨[(0,.ref 2000 0)],[(2000,aaK)],[.rowC 13 135 av,.rowC 10250002 135 av,.rowC 10250004 135 av,.rowC 10250005 186 dh,.rowC 10250006 135 av,.rowC 10250007 4 .bool],fun _=>0⟩)]
def As:aK:=⟨[.box [.val bB,.row 135 av,.val (.slice av),.row 135 av,.row 186 dh,.row 135 av,.row 4 .bool,.row 135 av]],[.val tI],fun x=>zI x.1⟩
noncomputable def Tv:Cx:=⟨tpr,[(71,dY),(72,jQ),(89,yw)]⟩
theorem Rz:aQ Tv PK none Tryz.f69 As:=by intro x;kernel_rfl
theorem Tn:aA tpr 69:=ay Tryz.func69 rfl (by decide)
theorem TD:aM tpr 69 As:=aI Rz (.cons gG gD (.cons z8 zQ (.cons JR JX (.nil _)))) aJ Tryz.func69
def PZ:List (Nat×Ann):=[(9,⟨[(5,.ref 18 0),(25,.val (.slice bK)),(26,.val tI),(27,.val tI)],[(18,aaW)],[.ar dV],aT _⟩),
 (200009,⟨[(5,.ref 18 0)],[(18,aaW)],[.ar dV],fun _=>0⟩)]
def zM:aK:=⟨[.val bB,.ar dV],[.val .hnd,.val tI],fun x=>m7 x.1 x.2.1⟩
noncomputable def TA:Cx:=⟨tpr,[(37,oT),(67,tO),(68,wD),(69,As)]⟩
theorem QW:aQ TA PZ none Tryz.f28 zM:=by intro x;kernel_rfl
theorem To:aA tpr 28:=ay Tryz.func28 rfl (by decide)
theorem Ta:aM tpr 28 zM:=aI QW (.cons Ej EC (.cons MQ MT (.cons Qc P5 (.cons TD Tn (.nil _))))) aJ Tryz.func28
def aaG:List (Nat×Ann):=[(3,⟨[(2,.ref 2 0),(3,.ref 3 0),(7,.val (.slice av)),(8,.val tI),(9,.val tI)],[(2,Ay),(3,kX)],[],aT _⟩),
 (200003,⟨[(2,.ref 2 0),(3,.ref 3 0)],[(2,Ay),(3,kX)],[],fun _=>0⟩)]
def LQ:aK:=⟨[.val (.slice av)],[.val av],fun x=>Fq x.1⟩
noncomputable def aen:Cx:=⟨tpr,[(71,dY),(127,iF)]⟩
theorem ab6:aQ aen aaG none Tryz.f70 LQ:=by intro x;kernel_rfl
theorem adL:aA tpr 70:=ay Tryz.func70 rfl (by decide)
theorem adI:aM tpr 70 LQ:=aI ab6 (.cons gG gD (.cons kz kJ (.nil _))) aJ Tryz.func70
def rA:aK:=⟨[.val .hnd,.val av,.arR dV],[.val aN],fun x=>gW x.1 x.2.1 x.2.2.1⟩
noncomputable def R6:Cx:=⟨tpr,[(86,uf)]⟩
theorem Qb:aQ R6 [] none Tryz.f75 rA:=by intro x;kernel_rfl
theorem GF:aA tpr 75:=ay Tryz.func75 rfl (by decide)
theorem G8:aM tpr 75 rA:=aI Qb (.cons Fl FD (.nil _)) aJ Tryz.func75
def uA:aK:=⟨[.val .hnd,.arR dV],[.val kE,.val tI],fun x=>sS x.1 x.2.1⟩
noncomputable def OS:Cx:=⟨tpr,[(70,LQ),(71,dY),(72,jN),(75,rA)]⟩
theorem Nw:aQ OS [] none Tryz.f29 uA:=by intro x;kernel_rfl
theorem Pe:aA tpr 29:=ay Tryz.func29 rfl (by decide)
theorem Oq:aM tpr 29 uA:=aI Nw (.cons adI adL (.cons gG gD (.cons zX zZ (.cons G8 GF (.nil _))))) aJ Tryz.func29
def IJ:List (Nat×Ann):=[(2,⟨[(6,.val (.slice aN)),(7,.val tI),(8,.val tI)],[],[],aT _⟩),
 (200002,⟨[],[],[],fun _=>0⟩)]
def qo:aK:=⟨[.val (.slice aN)],[.val tI],fun x=>dD x.1⟩
noncomputable def KH:Cx:=⟨tpr,[(102,dy)]⟩
theorem Jw:aQ KH IJ none Tryz.f114 qo:=by intro x;kernel_rfl
theorem KE:aA tpr 114:=ay Tryz.func114 rfl (by decide)
theorem KB:aM tpr 114 qo:=aI Jw (.cons gv gu (.nil _)) aJ Tryz.func114
def MI:List (Nat×Ann):=[(7,⟨[(1,.val (.slice aL)),(27,.val (.slice aL)),(28,.val tI),(29,.val tI)],[],[],aT _⟩),
 (200007,⟨[],[],[],fun _=>0⟩)]
def wC:aK:=⟨[.val kE,.val (.slice aL)],[.val tI],fun x=>jr x.1 x.2.1⟩
noncomputable def Qg:Cx:=⟨tpr,[(38,kO),(114,qo)]⟩
theorem OB:aQ Qg MI none Tryz.f55 wC:=by intro x;kernel_rfl
theorem PO:aA tpr 55:=ay Tryz.func55 rfl (by decide)
theorem PV:aM tpr 55 wC:=aI OB (.cons oz oB (.cons KB KE (.nil _))) aJ Tryz.func55
def EE:aK:=⟨[.val aN],[.val av],fun x=>yb x.1⟩
noncomputable def W6:Cx:=⟨tpr,[(88,pU)]⟩
theorem UB:aQ W6 [] none Tryz.f115 EE:=by intro x;kernel_rfl
theorem Xa:aA tpr 115:=ay Tryz.func115 rfl (by decide)
theorem Wm:aM tpr 115 EE:=aI UB (.cons Cg Cr (.nil _)) aJ Tryz.func115
def HS:aK:=⟨[.row 69 dc,.val tI,.val .str,.val aN,.val aN],[.row 69 dc],fun x=>er x.1 x.2.1 x.2.2.1 x.2.2.2.1 x.2.2.2.2.1⟩
noncomputable def aaC:Cx:=⟨tpr,[(115,EE),(116,mc)]⟩
theorem X8:aQ aaC [] none Tryz.f56 HS:=by intro x;kernel_rfl
theorem Z6:aA tpr 56:=ay Tryz.func56 rfl (by decide)
theorem ZA:aM tpr 56 HS:=aI X8 (.cons Wm Xa (.cons uN uT (.nil _))) aJ Tryz.func56
def OC:List (Nat×Ann):=[(3,⟨[(0,.val .hnd),(3,.own 35 aL),(10,.val (.slice cg)),(11,.val tI),(12,.val tI)],[],[.arF dV],aT _⟩),
 (200003,⟨[(3,.own 35 aL)],[],[.arF dV],fun _=>0⟩)]
def yS:aK:=⟨[.val .hnd,.arR dV],[.row 35 aL],fun x=>wS x.1 x.2.1⟩
noncomputable def Sh:Cx:=⟨tpr,[(75,rA)]⟩
theorem P6:aQ Sh OC none Tryz.f30 yS:=by intro x;kernel_rfl
theorem Rp:aA tpr 30:=ay Tryz.func30 rfl (by decide)
theorem Rt:aM tpr 30 yS:=aI P6 (.cons G8 GF (.nil _)) aJ Tryz.func30
def VS:List (Nat×Ann):=[(19,⟨[(3,.ref 3 0),(8,.val .hnd),(12,.rowR 167184),(13,.mapR 77),(14,.mapR 78),(15,.own 9 .str),(79,.val (.slice aL)),(80,.val tI),(81,.val tI)],[(3,dF)],[.rowC 167184 69 dc,.mapC 77 .str aL,.mapC 78 .str aL,.ar dV],aT _⟩),
 (25,⟨[(3,.ref 3 0),(12,.rowR 167184),(13,.mapR 77),(14,.mapR 78),(15,.own 9 .str),(96,.rowR 208144),(97,.val tI),(98,.val tI)],[(3,dF)],[.rowC 167184 69 dc,.rowC 208144 35 aL,.mapC 77 .str aL,.mapC 78 .str aL,.ar dV],aT _⟩),
 (33,⟨[(12,.own 69 dc),(13,.mapR 77),(14,.mapR 78),(20,.ref 20 0),(118,.rowR 253200),(119,.val tI),(120,.val tI)],[(20,mG)],[.rowC 253200 9 .str,.mapC 77 .str aL,.mapC 78 .str aL,.ar dV],aT _⟩),
 (100037,⟨[(12,.own 69 dc),(13,.mapR 77),(14,.mapR 78),(20,.ref 20 0),(22,.val .str),(23,.ref 23 0),(118,.rowR 253200),(119,.val tI),(120,.val tI)],[(20,mG),(23,WT)],[.rowC 253200 9 .str,.mapC 77 .str aL,.mapC 78 .str aL,.ar dV],fun _=>0⟩),
 (200019,⟨[(3,.ref 3 0),(8,.val .hnd),(12,.rowR 167184),(13,.mapR 77),(14,.mapR 78),(15,.own 9 .str)],[(3,dF)],[.rowC 167184 69 dc,.mapC 77 .str aL,.mapC 78 .str aL,.ar dV],fun _=>0⟩),
 (200025,⟨[(3,.ref 3 0),(12,.rowR 167184),(13,.mapR 77),(14,.mapR 78),(15,.own 9 .str)],[(3,dF)],[.rowC 167184 69 dc,.mapC 77 .str aL,.mapC 78 .str aL,.ar dV],fun _=>0⟩),
 (200033,⟨[(12,.own 69 dc)],[],[.ar dV],fun _=>0⟩)]
def HL:aK:=⟨[.val bB,.val kE,.val (.slice aL)],[.row 69 dc,.val tI],fun x=>qS x.1 x.2.1 x.2.2.1⟩
noncomputable def Zw:Cx:=⟨tpr,[(28,zM),(29,uA),(30,yS),(55,wC),(56,HS),(57,tu),(58,pX)]⟩
theorem Xp:aQ Zw VS (some dV) Tryz.f23 HL:=by intro x;kernel_rfl
theorem Zq:aA tpr 23:=ay Tryz.func23 rfl (by decide)
theorem ZG:aM tpr 23 HL:=aI Xp (.cons Ta To (.cons Oq Pe (.cons Rt Rp (.cons PV PO (.cons ZA Z6 (.cons CQ CP (.cons ye yG (.nil _)))))))) aJ Tryz.func23
def Xz:List (Nat×Ann):=[(4,⟨[(0,.val .str),(23,.val tI),(24,.val tI)],[],[],aT _⟩),
 (200004,⟨[],[],[],fun _=>0⟩)]
def JI:aK:=⟨[.val .str],[.val .bool],fun x=>Sc x.1⟩
noncomputable def abF:Cx:=⟨tpr,[]⟩
theorem ZD:aQ abF Xz none Tryz.f120 JI:=by intro x;kernel_rfl
theorem ab4:aA tpr 120:=ay Tryz.func120 rfl (by decide)
theorem acv:aM tpr 120 JI:=aI ZD (.nil _) aJ Tryz.func120
def tY:aK:=⟨[.val .str],[.val .bool],fun x=>mu x.1⟩
noncomputable def acG:Cx:=⟨tpr,[(120,JI)]⟩
theorem ZM:aQ acG [] none Tryz.f61 tY:=by intro x;kernel_rfl
theorem Dw:aA tpr 61:=ay Tryz.func61 rfl (by decide)
theorem D9:aM tpr 61 tY:=aI ZM (.cons acv ab4 (.nil _)) aJ Tryz.func61
def xS:aK:=⟨[.val tI,.val tI,.val tI],[.val .bool],fun x=>yL x.1 x.2.1 x.2.2.1⟩
noncomputable def abS:Cx:=⟨tpr,[]⟩
theorem aak:aQ abS [] none Tryz.f119 xS:=by intro x;kernel_rfl
theorem Kn:aA tpr 119:=ay Tryz.func119 rfl (by decide)
theorem Jm:aM tpr 119 xS:=aI aak (.nil _) aJ Tryz.func119
def Mu:aK:=⟨[.val tI],[.val .bool],fun x=>Ve x.1⟩
noncomputable def aeM:Cx:=⟨tpr,[(119,xS)]⟩
theorem abZ:aQ aeM [] none Tryz.f138 Mu:=by intro x;kernel_rfl
theorem aeB:aA tpr 138:=ay Tryz.func138 rfl (by decide)
theorem adZ:aM tpr 138 Mu:=aI abZ (.cons Jm Kn (.nil _)) aJ Tryz.func138
def Mm:aK:=⟨[.val tI],[.val .bool],fun x=>NQ x.1⟩
noncomputable def aeD:Cx:=⟨tpr,[(138,Mu)]⟩
theorem abi:aQ aeD [] none Tryz.f76 Mm:=by intro x;kernel_rfl
theorem ad5:aA tpr 76:=ay Tryz.func76 rfl (by decide)
theorem aek:aM tpr 76 Mm:=aI abi (.cons adZ aeB (.nil _)) aJ Tryz.func76
def qG:aK:=⟨[.val tI,.val tI,.val tI],[.val .bool],fun x=>lP x.1 x.2.1 x.2.2.1⟩
noncomputable def ZK:Cx:=⟨tpr,[]⟩
theorem Yr:aQ ZK [] none Tryz.f65 qG:=by intro x;kernel_rfl
theorem BS:aA tpr 65:=ay Tryz.func65 rfl (by decide)
theorem Ba:aM tpr 65 qG:=aI Yr (.nil _) aJ Tryz.func65
def kZ:aK:=⟨[.val aN],[.val tI],fun x=>di x.1⟩
noncomputable def Re:Cx:=⟨tpr,[(119,xS)]⟩
theorem PR:aQ Re [] none Tryz.f60 kZ:=by intro x;kernel_rfl
theorem qO:aA tpr 60:=ay Tryz.func60 rfl (by decide)
theorem rB:aM tpr 60 kZ:=aI PR (.cons Jm Kn (.nil _)) aJ Tryz.func60
def agb:List (Nat×Ann):=[(2,⟨[(0,.val tI),(2,.ref 2 0),(3,.ref 3 0)],[(2,iV),(3,iV)],[],aT _⟩),
 (200002,⟨[(2,.ref 2 0),(3,.ref 3 0)],[(2,iV),(3,iV)],[],fun _=>0⟩)]
def sj:aK:=⟨[.val tI],[.val bn],fun x=>mD x.1⟩
noncomputable def ahV:Cx:=⟨tpr,[]⟩
theorem agW:aQ ahV agb none Tryz.f181 sj:=by intro x;kernel_rfl
theorem yC:aA tpr 181:=ay Tryz.func181 rfl (by decide)
theorem xY:aM tpr 181 sj:=aI agW (.nil _) aJ Tryz.func181
def VQ:List (Nat×Ann):=[(1,⟨[(1,.ref 1 0),(2,.ref 2 0)],[(1,mB),(2,iV)],[],aT _⟩),
 (200001,⟨[(1,.ref 1 0),(2,.ref 2 0)],[(1,mB),(2,iV)],[],fun _=>0⟩)]
def vu:aK:=⟨[.val bn],[.val bn],fun x=>oZ x.1⟩
noncomputable def ZQ:Cx:=⟨tpr,[]⟩
theorem Ya:aQ ZQ VQ none Tryz.f215 vu:=by intro x;kernel_rfl
theorem HB:aA tpr 215:=ay Tryz.func215 rfl (by decide)
theorem HI:aM tpr 215 vu:=aI Ya (.nil _) aJ Tryz.func215
def Wv:List (Nat×Ann):=[(3,⟨[(3,.ref 3 0),(4,.ref 4 0),(5,.ref 5 0),(27,.val (.slice tI)),(28,.val tI),(29,.val tI)],[(3,mB),(4,iV),(5,XG)],[.rowC 24 3 tI],aT _⟩),
 (6,⟨[(3,.ref 3 0),(4,.ref 4 0),(5,.ref 5 0),(6,.val tI),(7,.val tI),(27,.val (.slice tI)),(28,.val tI),(29,.val tI),(35,.val (.slice tI)),(36,.val tI),(37,.val tI)],[(3,mB),(4,iV),(5,XG)],[.rowC 24 3 tI],aT _⟩),
 (14,⟨[(4,.ref 4 0),(5,.ref 5 0),(86,.val tI),(87,.val tI)],[(4,iV),(5,XG)],[.rowC 24 3 tI],aT _⟩),
 (200003,⟨[(4,.ref 4 0),(5,.ref 5 0)],[(4,iV),(5,XG)],[.rowC 24 3 tI],fun _=>0⟩),
 (200006,⟨[(3,.ref 3 0),(4,.ref 4 0),(5,.ref 5 0),(27,.val (.slice tI)),(28,.val tI),(29,.val tI)],[(3,mB),(4,iV),(5,XG)],[.rowC 24 3 tI],fun _=>0⟩),
 (200014,⟨[(4,.ref 4 0),(5,.ref 5 0)],[(4,iV),(5,XG)],[.rowC 24 3 tI],fun _=>0⟩)]
def kN:aK:=⟨[.val bn,.val bn],[.val bn],fun x=>iA x.1 x.2.1⟩
noncomputable def aai:Cx:=⟨tpr,[(215,vu)]⟩
theorem XE:aQ aai Wv none Tryz.f180 kN:=by intro x;kernel_rfl
theorem ov:aA tpr 180:=ay Tryz.func180 rfl (by decide)
theorem oD:aM tpr 180 kN:=aI XE (.cons HI HB (.nil _)) aJ Tryz.func180
def Zo:List (Nat×Ann):=[(3,⟨[(2,.ref 2 0),(3,.ref 3 0),(5,.val tI),(6,.val tI)],[(2,iV),(3,mB)],[],aT _⟩),
 (200003,⟨[(2,.ref 2 0),(3,.ref 3 0)],[(2,iV),(3,mB)],[],fun _=>0⟩)]
def AV:aK:=⟨[.val tI],[.val bn],fun x=>xH x.1⟩
noncomputable def adW:Cx:=⟨tpr,[(180,kN),(181,sj)]⟩
theorem abu:aQ adW Zo none Tryz.f182 AV:=by intro x;kernel_rfl
theorem L5:aA tpr 182:=ay Tryz.func182 rfl (by decide)
theorem LP:aM tpr 182 AV:=aI abu (.cons oD ov (.cons xY yC (.nil _))) aJ Tryz.func182
def NK:aK:=⟨[.val aN,.val tI],[.val bn],fun x=>Lr x.1 x.2.1⟩
noncomputable def aij:Cx:=⟨tpr,[(180,kN),(181,sj),(182,AV)]⟩
theorem agY:aQ aij [] none Tryz.f122 NK:=by intro x;kernel_rfl
theorem abd:aA tpr 122:=ay Tryz.func122 rfl (by decide)
theorem ab2:aM tpr 122 NK:=aI agY (.cons oD ov (.cons xY yC (.cons LP L5 (.nil _)))) aJ Tryz.func122
def AK:aK:=⟨[.val bn],[.val bn],fun x=>u0 x.1⟩
noncomputable def adH:Cx:=⟨tpr,[]⟩
theorem abw:aQ adH [] none Tryz.f179 AK:=by intro x;kernel_rfl
theorem Mk:aA tpr 179:=ay Tryz.func179 rfl (by decide)
theorem LU:aM tpr 179 AK:=aI abw (.nil _) aJ Tryz.func179
def Zy:List (Nat×Ann):=[(4,⟨[(0,.val (.slice tI)),(1,.val (.slice tI)),(5,.val tI)],[],[],aT _⟩),
 (200004,⟨[],[],[],fun _=>0⟩)]
def FX:aK:=⟨[.val (.slice tI),.val (.slice tI)],[.val tI],fun x=>ET x.1 x.2.1⟩
noncomputable def adP:Cx:=⟨tpr,[]⟩
theorem acK:aQ adP Zy none Tryz.f213 FX:=by intro x;kernel_rfl
theorem Uj:aA tpr 213:=ay Tryz.func213 rfl (by decide)
theorem Ug:aM tpr 213 FX:=aI acK (.nil _) aJ Tryz.func213
def F9:aK:=⟨[.val (.slice tI),.val tI],[.val tI],fun x=>xP x.1 x.2.1⟩
noncomputable def aez:Cx:=⟨tpr,[]⟩
theorem abJ:aQ aez [] none Tryz.f214 F9:=by intro x;kernel_rfl
theorem Ud:aA tpr 214:=ay Tryz.func214 rfl (by decide)
theorem T6:aM tpr 214 F9:=aI abJ (.nil _) aJ Tryz.func214
def abr:List (Nat×Ann):=[(7,⟨[(2,.ref 2 0),(3,.ref 3 0),(4,.ref 4 0),(5,.ref 5 0),(6,.val tI),(31,.val tI),(32,.val tI)],[(2,mB),(3,mB),(4,iV),(5,iV)],[],aT _⟩),
 (19,⟨[(2,.ref 2 0),(3,.ref 3 0),(4,.ref 4 0),(9,.ref 9 0),(10,.val tI),(70,.val tI),(71,.val tI)],[(2,mB),(3,mB),(4,iV),(9,iV)],[],aT _⟩),
 (100003,⟨[(2,.ref 2 0),(3,.ref 3 0),(4,.ref 4 0)],[(2,mB),(3,mB),(4,iV)],[],fun _=>0⟩),
 (100012,⟨[(2,.ref 2 0),(3,.ref 3 0),(4,.ref 4 0),(5,.ref 5 0),(6,.val tI),(8,.val tI),(31,.val tI),(32,.val tI)],[(2,mB),(3,mB),(4,iV),(5,iV)],[],fun _=>0⟩),
 (200007,⟨[(4,.ref 4 0),(5,.ref 5 0)],[(4,iV),(5,iV)],[],fun _=>0⟩),
 (200019,⟨[(4,.ref 4 0),(9,.ref 9 0)],[(4,iV),(9,iV)],[],fun _=>0⟩)]
def DD:aK:=⟨[.val bn,.val bn],[.val bn],fun x=>zz x.1 x.2.1⟩
noncomputable def afA:Cx:=⟨tpr,[(213,FX),(214,F9),(215,vu)]⟩
theorem adC:aQ afA abr none Tryz.f178 DD:=by intro x;kernel_rfl
theorem OW:aA tpr 178:=ay Tryz.func178 rfl (by decide)
theorem Ow:aM tpr 178 DD:=aI adC (.cons Ug Uj (.cons T6 Ud (.cons HI HB (.nil _)))) aJ Tryz.func178
def D7:aK:=⟨[.val bn],[.val tI],fun x=>CU x.1⟩
noncomputable def agp:Cx:=⟨tpr,[]⟩
theorem ad7:aQ agp [] none Tryz.f177 D7:=by intro x;kernel_rfl
theorem N7:aA tpr 177:=ay Tryz.func177 rfl (by decide)
theorem NT:aM tpr 177 D7:=aI ad7 (.nil _) aJ Tryz.func177
def G9:aK:=⟨[.val bn,.val bn],[.val tI],fun x=>M7 x.1 x.2.1⟩
noncomputable def ahI:Cx:=⟨tpr,[(177,D7),(178,DD),(179,AK)]⟩
theorem agh:aQ ahI [] none Tryz.f121 G9:=by intro x;kernel_rfl
theorem Sw:aA tpr 121:=ay Tryz.func121 rfl (by decide)
theorem Sv:aM tpr 121 G9:=aI agh (.cons NT N7 (.cons Ow OW (.cons LU Mk (.nil _)))) aJ Tryz.func121
def Ix:aK:=⟨[.val aN,.val aN],[.val tI],fun x=>yZ x.1 x.2.1⟩
noncomputable def afN:Cx:=⟨tpr,[(121,G9),(122,NK)]⟩
theorem aeA:aQ afN [] none Tryz.f62 Ix:=by intro x;kernel_rfl
theorem Xe:aA tpr 62:=ay Tryz.func62 rfl (by decide)
theorem V5:aM tpr 62 Ix:=aI aeA (.cons Sv Sw (.cons ab2 abd (.nil _))) aJ Tryz.func62
def AF:aK:=⟨[.val aN,.val tI,.val tI,.val tI],[.val .bool],fun x=>m6 x.1 x.2.1 x.2.2.1 x.2.2.2.1⟩
noncomputable def adU:Cx:=⟨tpr,[(60,kZ),(62,Ix)]⟩
theorem adg:aQ adU [] none Tryz.f77 AF:=by intro x;kernel_rfl
theorem Mf:aA tpr 77:=ay Tryz.func77 rfl (by decide)
theorem MD:aM tpr 77 AF:=aI adg (.cons rB qO (.cons V5 Xe (.nil _))) aJ Tryz.func77
def Xm:List (Nat×Ann):=[(2,⟨[(1,.val .str),(8,.val (.slice cg)),(9,.val tI),(10,.val tI)],[],[],aT _⟩),
 (200002,⟨[],[],[],fun _=>0⟩)]
def qF:aK:=⟨[.val bB,.val .str],[.val tI],fun x=>fS x.1 x.2.1⟩
noncomputable def Z5:Cx:=⟨tpr,[]⟩
theorem YB:aQ Z5 Xm none Tryz.f81 qF:=by intro x;kernel_rfl
theorem BG:aA tpr 81:=ay Tryz.func81 rfl (by decide)
theorem BN:aM tpr 81 qF:=aI YB (.nil _) aJ Tryz.func81
def Oo:List (Nat×Ann):=[(4,⟨[(2,.val .bool),(3,.ref 3 0),(12,.val (.slice bK)),(13,.val tI),(14,.val tI)],[(3,dF)],[],aT _⟩),
 (200004,⟨[],[],[],fun _=>0⟩)]
def ru:aK:=⟨[.val bB,.val (.slice bK),.val .bool],[.val tI],fun x=>l8 x.1 x.2.1 x.2.2.1⟩
noncomputable def QN:Cx:=⟨tpr,[(60,kZ),(77,AF),(81,qF)]⟩
theorem PW:aQ QN Oo none Tryz.f79 ru:=by intro x;kernel_rfl
theorem GK:aA tpr 79:=ay Tryz.func79 rfl (by decide)
theorem GR:aM tpr 79 ru:=aI PW (.cons rB qO (.cons MD Mf (.cons BN BG (.nil _)))) aJ Tryz.func79
def Cv:aK:=⟨[.val bB,.val tI],[.val tI],fun x=>vQ x.1 x.2.1⟩
noncomputable def Vu:Cx:=⟨tpr,[(61,tY),(65,qG),(77,AF),(79,ru),(81,qF)]⟩
theorem Tu:aQ Vu [] none Tryz.f78 Cv:=by intro x;kernel_rfl
theorem Vs:aA tpr 78:=ay Tryz.func78 rfl (by decide)
theorem UU:aM tpr 78 Cv:=aI Tu (.cons D9 Dw (.cons Ba BS (.cons MD Mf (.cons GR GK (.cons BN BG (.nil _)))))) aJ Tryz.func78
def Nu:List (Nat×Ann):=[(12,⟨[(1,.ref 1 0),(45,.val (.slice cg)),(46,.val tI),(47,.val tI)],[(1,dF)],[],aT _⟩),
 (26,⟨[(1,.ref 1 0),(88,.val tI),(89,.val tI)],[(1,dF)],[],aT _⟩),
 (200012,⟨[(1,.ref 1 0)],[(1,dF)],[],fun _=>0⟩),
 (200026,⟨[(1,.ref 1 0)],[(1,dF)],[],fun _=>0⟩)]
def mM:aK:=⟨[.val bB],[.val tI],fun x=>kU x.1⟩
noncomputable def Qd:Cx:=⟨tpr,[(61,tY),(65,qG),(76,Mm),(77,AF),(78,Cv),(79,ru)]⟩
theorem Oy:aQ Qd Nu none Tryz.f31 mM:=by intro x;kernel_rfl
theorem wG:aA tpr 31:=ay Tryz.func31 rfl (by decide)
theorem wM:aM tpr 31 mM:=aI Oy (.cons D9 Dw (.cons Ba BS (.cons aek ad5 (.cons MD Mf (.cons UU Vs (.cons GR GK (.nil _))))))) aJ Tryz.func31
def abk:List (Nat×Ann):=[(4,⟨[(1,.ref 1 0),(2,.ref 2 0),(4,.ref 4 0),(5,.val tI),(6,.val tI)],[(1,mB),(2,iV),(4,[.val .bool,.rowR 11])],[.rowC 11 3 tI],aT _⟩),
 (200004,⟨[(2,.ref 2 0),(4,.ref 4 0),(5,.val tI)],[(2,iV),(4,[.val .bool,.rowR 11])],[.rowC 11 3 tI],fun _=>0⟩)]
def OL:aK:=⟨[.val bn],[.val bn,.val tI],fun x=>SH x.1⟩
noncomputable def afJ:Cx:=⟨tpr,[(215,vu)]⟩
theorem adF:aQ afJ abk none Tryz.f235 OL:=by intro x;kernel_rfl
theorem af9:aA tpr 235:=ay Tryz.func235 rfl (by decide)
theorem afX:aM tpr 235 OL:=aI adF (.cons HI HB (.nil _)) aJ Tryz.func235
def YJ:List (Nat×Ann):=[(3,⟨[(3,.ref 3 0),(4,.ref 4 0),(5,.ref 5 0),(6,.own 3 tI),(7,.ref 7 0)],[(3,mB),(4,iV),(5,iV),(7,mB)],[],fun x=>20*x.2.2.2.2.2.2.2.2.1.length+2⟩),
 (11,⟨[(3,.ref 3 0),(4,.ref 4 0),(5,.ref 5 0),(6,.own 3 tI),(10,.ref 10 0),(11,.ref 11 0),(12,.ref 12 0),(13,.val tI)],[(3,mB),(4,iV),(5,iV),(10,mB),(11,mB),(12,mB)],[],aT _⟩),
 (200003,⟨[(3,.ref 3 0),(4,.ref 4 0),(5,.ref 5 0),(6,.own 3 tI)],[(3,mB),(4,iV),(5,iV)],[],fun _=>0⟩),
 (200011,⟨[(4,.ref 4 0),(5,.ref 5 0),(10,.ref 10 0),(11,.ref 11 0)],[(4,iV),(5,iV),(10,mB),(11,mB)],[],fun _=>0⟩)]
def Dt:aK:=⟨[.val bn,.val bn],[.val bn,.val bn],fun x=>Hg x.1 x.2.1⟩
noncomputable def acs:Cx:=⟨tpr,[(121,G9),(177,D7),(178,DD),(179,AK),(180,kN),(181,sj),(235,OL)]⟩
theorem ZW:aQ acs YJ none Tryz.f222 Dt:=by intro x;kernel_rfl
theorem Qx:aA tpr 222:=ay Tryz.func222 rfl (by decide)
theorem QG:aM tpr 222 Dt:=aI ZW (.cons Sv Sw (.cons NT N7 (.cons Ow OW (.cons LU Mk (.cons oD ov (.cons xY yC (.cons afX af9 (.nil _)))))))) aJ Tryz.func222
def aag:List (Nat×Ann):=[(100009,⟨[(6,.ref 6 0),(7,.val .bool),(8,.ref 8 0),(11,.val .bool)],[(6,iV),(8,mB)],[],fun _=>0⟩)]
def Lt:aK:=⟨[.val bn,.val bn,.val tI],[.val bn],fun x=>NZ x.1 x.2.1 x.2.2.1⟩
noncomputable def adJ:Cx:=⟨tpr,[(121,G9),(177,D7),(178,DD),(179,AK),(180,kN),(181,sj),(214,F9),(222,Dt)]⟩
theorem acn:aQ adJ aag none Tryz.f221 Lt:=by intro x;kernel_rfl
theorem aem:aA tpr 221:=ay Tryz.func221 rfl (by decide)
theorem adT:aM tpr 221 Lt:=aI acn (.cons Sv Sw (.cons NT N7 (.cons Ow OW (.cons LU Mk (.cons oD ov (.cons xY yC (.cons T6 Ud (.cons QG Qx (.nil _))))))))) aJ Tryz.func221
def Zv:List (Nat×Ann):=[(5,⟨[(2,.ref 2 0),(6,.val tI),(7,.val tI)],[(2,mB)],[],aT _⟩),
 (200005,⟨[(2,.ref 2 0),(6,.val tI)],[(2,mB)],[],fun _=>0⟩)]
def AG:aK:=⟨[.val bn,.val tI],[.val tI,.val .bool],fun x=>B8 x.1 x.2.1⟩
noncomputable def adE:Cx:=⟨tpr,[(181,sj),(213,FX)]⟩
theorem acW:aQ adE Zv none Tryz.f192 AG:=by intro x;kernel_rfl
theorem LZ:aA tpr 192:=ay Tryz.func192 rfl (by decide)
theorem LO:aM tpr 192 AG:=aI acW (.cons xY yC (.cons Ug Uj (.nil _))) aJ Tryz.func192
def zG:aK:=⟨[.val bB,.val bn,.val bn],[.val tI,.val .bool],fun x=>AA x.1 x.2.1 x.2.2.1⟩
noncomputable def Yk:Cx:=⟨tpr,[(192,AG),(221,Lt)]⟩
theorem W5:aQ Yk [] none Tryz.f191 zG:=by intro x;kernel_rfl
theorem Nf:aA tpr 191:=ay Tryz.func191 rfl (by decide)
theorem MY:aM tpr 191 zG:=aI W5 (.cons LO LZ (.cons adT aem (.nil _))) aJ Tryz.func191
def Ku:aK:=⟨[.val bB,.val b7],[.val tI,.val .bool],fun x=>Lf x.1 x.2.1⟩
noncomputable def abH:Cx:=⟨tpr,[(180,kN),(181,sj),(182,AV),(191,zG)]⟩
theorem ZI:aQ abH [] none Tryz.f139 Ku:=by intro x;kernel_rfl
theorem abz:aA tpr 139:=ay Tryz.func139 rfl (by decide)
theorem abh:aM tpr 139 Ku:=aI ZI (.cons oD ov (.cons xY yC (.cons LP L5 (.cons MY Nf (.nil _))))) aJ Tryz.func139
def zn:aK:=⟨[.val bB,.val tI,.val aN],[.val tI,.val .bool],fun x=>o6 x.1 x.2.1 x.2.2.1⟩
noncomputable def Yx:Cx:=⟨tpr,[(180,kN),(181,sj),(182,AV),(191,zG)]⟩
theorem V7:aQ Yx [] none Tryz.f142 zn:=by intro x;kernel_rfl
theorem Ng:aA tpr 142:=ay Tryz.func142 rfl (by decide)
theorem MX:aM tpr 142 zn:=aI V7 (.cons oD ov (.cons xY yC (.cons LP L5 (.cons MY Nf (.nil _))))) aJ Tryz.func142
def BQ:aK:=⟨[.val bB,.val bK,.val tI],[.val tI,.val .bool],fun x=>D6 x.1 x.2.1 x.2.2.1⟩
noncomputable def Z8:Cx:=⟨tpr,[(122,NK),(142,zn),(192,AG)]⟩
theorem Ye:aQ Z8 [] none Tryz.f140 BQ:=by intro x;kernel_rfl
theorem Po:aA tpr 140:=ay Tryz.func140 rfl (by decide)
theorem PA:aM tpr 140 BQ:=aI Ye (.cons ab2 abd (.cons MX Ng (.cons LO LZ (.nil _)))) aJ Tryz.func140
def nY:aK:=⟨[.val tI],[.val .bool],fun x=>nP x.1⟩
noncomputable def VM:Cx:=⟨tpr,[(65,qG)]⟩
theorem Vj:aQ VM [] none Tryz.f82 nY:=by intro x;kernel_rfl
theorem wT:aA tpr 82:=ay Tryz.func82 rfl (by decide)
theorem wQ:aM tpr 82 nY:=aI Vj (.cons Ba BS (.nil _)) aJ Tryz.func82
def ads:List (Nat×Ann):=[(6,⟨[(2,.ref 2 0),(6,.val tI),(8,.val tI),(23,.val (.slice bK)),(24,.val tI),(25,.val tI)],[(2,dF)],[],aT _⟩),
 (200006,⟨[(8,.val tI)],[],[],fun _=>0⟩)]
def NM:aK:=⟨[.val bB,.val b7],[.val tI,.val .bool],fun x=>S6 x.1 x.2.1⟩
noncomputable def afG:Cx:=⟨tpr,[(82,nY),(139,Ku),(140,BQ)]⟩
theorem aev:aQ afG ads none Tryz.f80 NM:=by intro x;kernel_rfl
theorem afw:aA tpr 80:=ay Tryz.func80 rfl (by decide)
theorem afP:aM tpr 80 NM:=aI aev (.cons wQ wT (.cons abh abz (.cons PA Po (.nil _)))) aJ Tryz.func80
def wo:aK:=⟨[.val (.slice tI)],[.row 3 tI],fun x=>uZ x.1⟩
noncomputable def PI:Cx:=⟨tpr,[]⟩
theorem OZ:aQ PI [] none Tryz.f83 wo:=by intro x;kernel_rfl
theorem P9:aA tpr 83:=ay Tryz.func83 rfl (by decide)
theorem Qh:aM tpr 83 wo:=aI OZ (.nil _) aJ Tryz.func83
def Oj:aK:=⟨[.val tI],[.val tI],fun x=>I5 x.1⟩
noncomputable def af8:Cx:=⟨tpr,[]⟩
theorem aeJ:aQ af8 [] none Tryz.f193 Oj:=by intro x;kernel_rfl
theorem afS:aA tpr 193:=ay Tryz.func193 rfl (by decide)
theorem afB:aM tpr 193 Oj:=aI aeJ (.nil _) aJ Tryz.func193
def Yi:List (Nat×Ann):=[(9,⟨[(1,.val (.slice tI)),(2,.ref 2 0),(6,.val tI),(32,.val (.slice tI)),(33,.val tI),(34,.val tI)],[(2,mG)],[],aT _⟩),
 (22,⟨[(2,.ref 2 0),(6,.val tI),(9,.val tI),(10,.rowR 55),(11,.rowR 58),(12,.val tI),(60,.val (.slice tI)),(61,.val tI),(62,.val tI)],[(2,mG)],[.rowC 55 33 aN,.rowC 58 3 tI],aT _⟩),
 (30,⟨[(2,.ref 2 0),(10,.rowR 55),(11,.rowR 58),(12,.val tI)],[(2,mG)],[.rowC 55 33 aN,.rowC 58 3 tI],aT _⟩),
 (34,⟨[(2,.ref 2 0),(10,.rowR 55),(11,.rowR 58),(12,.val tI),(19,.val tI),(106,.rowR 58),(107,.val tI),(108,.val tI)],[(2,mG)],[.rowC 55 33 aN,.rowC 58 3 tI],aT _⟩),
 (42,⟨[(2,.ref 2 0),(10,.rowR 55),(133,.val tI),(134,.val tI)],[(2,mG)],[.rowC 55 33 aN],aT _⟩),
 (200009,⟨[(1,.val (.slice tI)),(2,.ref 2 0),(6,.val tI)],[(2,mG)],[],fun _=>0⟩),
 (200022,⟨[(2,.ref 2 0),(10,.rowR 55),(11,.rowR 58),(12,.val tI)],[(2,mG)],[.rowC 55 33 aN,.rowC 58 3 tI],fun _=>0⟩),
 (200030,⟨[(2,.ref 2 0),(10,.rowR 55)],[(2,mG)],[.rowC 55 33 aN],fun _=>0⟩),
 (200034,⟨[(2,.ref 2 0),(10,.rowR 55),(11,.rowR 58),(12,.val tI),(19,.val tI)],[(2,mG)],[.rowC 55 33 aN,.rowC 58 3 tI],fun _=>0⟩),
 (200042,⟨[(10,.rowR 55)],[],[.rowC 55 33 aN],fun _=>0⟩)]
def JC:aK:=⟨[.val aN,.val (.slice tI)],[.val (.slice aN),.val tI],fun x=>Lh x.1 x.2.1⟩
noncomputable def abM:Cx:=⟨tpr,[(60,kZ),(119,xS),(180,kN),(181,sj),(192,AG),(222,Dt)]⟩
theorem ZP:aQ abM Yi none Tryz.f194 JC:=by intro x;kernel_rfl
theorem abP:aA tpr 194:=ay Tryz.func194 rfl (by decide)
theorem adb:aM tpr 194 JC:=aI ZP (.cons rB qO (.cons Jm Kn (.cons oD ov (.cons xY yC (.cons LO LZ (.cons QG Qx (.nil _))))))) aJ Tryz.func194
def VP:List (Nat×Ann):=[(5,⟨[(0,.val tI),(6,.rowR 17),(7,.own 3 tI),(8,.val tI),(18,.val (.slice tI)),(19,.val tI),(20,.val tI)],[],[.rowC 17 3 tI],aT _⟩),
 (17,⟨[(6,.rowR 17),(12,.val tI),(50,.val (.slice aN)),(51,.val tI),(52,.val tI)],[],[.rowC 17 3 tI],aT _⟩),
 (200005,⟨[(0,.val tI),(6,.rowR 17),(7,.own 3 tI),(8,.val tI)],[],[.rowC 17 3 tI],fun _=>0⟩),
 (200017,⟨[(6,.rowR 17),(12,.val tI)],[],[.rowC 17 3 tI],fun _=>0⟩)]
def Hv:aK:=⟨[.val tI,.val (.slice tI)],[.row 3 tI,.val tI],fun x=>Iv x.1 x.2.1⟩
noncomputable def aau:Cx:=⟨tpr,[(193,Oj),(194,JC)]⟩
theorem Xq:aQ aau VP none Tryz.f141 Hv:=by intro x;kernel_rfl
theorem Z7:aA tpr 141:=ay Tryz.func141 rfl (by decide)
theorem aal:aM tpr 141 Hv:=aI Xq (.cons afB afS (.cons adb abP (.nil _))) aJ Tryz.func141
def OK:List (Nat×Ann):=[(3,⟨[(0,.ref 2000 0),(4,.ref 4 0),(5,.ref 5 0),(7,.val tI),(8,.val tI),(27,.rowR 10250002),(28,.val tI),(29,.val tI)],[(4,dF),(5,YA),(2000,I9)],[.rowC 10250001 3 tI,.rowC 10250002 3 tI,.rowC 10250003 78 (.slice tI),.rowC 10250004 3 tI,.rowC 10250005 3 tI,.rowC 10250006 3 tI,.rowC 10250007 4 .bool],aT _⟩),
 (19,⟨[(0,.ref 2000 0),(8,.val tI),(11,.val tI),(13,.val (.slice tI)),(81,.val (.slice tI)),(82,.val tI),(83,.val tI)],[(2000,I9)],[.rowC 10250001 3 tI,.rowC 10250002 3 tI,.rowC 10250003 78 (.slice tI),.rowC 10250004 3 tI,.rowC 10250005 3 tI,.rowC 10250006 3 tI,.rowC 10250007 4 .bool],aT _⟩),
 (25,⟨[(0,.ref 2000 0),(11,.val tI),(13,.val (.slice tI)),(124,.rowR 10250005),(125,.val tI),(126,.val tI)],[(2000,I9)],[.rowC 10250001 3 tI,.rowC 10250002 3 tI,.rowC 10250003 78 (.slice tI),.rowC 10250004 3 tI,.rowC 10250005 3 tI,.rowC 10250006 3 tI,.rowC 10250007 4 .bool],aT _⟩),
 (100017,⟨[(0,.ref 2000 0),(8,.val tI),(11,.val tI),(13,.own 3 tI)],[(2000,I9)],[.rowC 10250001 3 tI,.rowC 10250002 3 tI,.rowC 10250003 78 (.slice tI),.rowC 10250004 3 tI,.rowC 10250005 3 tI,.rowC 10250006 3 tI,.rowC 10250007 4 .bool],fun _=>0⟩),
 (200003,⟨[(0,.ref 2000 0),(4,.ref 4 0),(5,.ref 5 0),(7,.val tI),(8,.val tI)],[(4,dF),(5,YA),(2000,I9)],[.rowC 10250001 3 tI,.rowC 10250002 3 tI,.rowC 10250003 78 (.slice tI),.rowC 10250004 3 tI,.rowC 10250005 3 tI,.rowC 10250006 3 tI,.rowC 10250007 4 .bool],fun _=>0⟩),
 (200019,⟨[(0,.ref 2000 0),(11,.val tI),(13,.val (.slice tI))],[(2000,I9)],[.rowC 10250001 3 tI,.rowC 10250002 3 tI,.rowC 10250003 78 (.slice tI),.rowC 10250004 3 tI,.rowC 10250005 3 tI,.rowC 10250006 3 tI,.rowC 10250007 4 .bool],fun _=>0⟩),
 (200025,⟨[(0,.ref 2000 0),(11,.val tI),(13,.val (.slice tI))],[(2000,I9)],[.rowC 10250001 3 tI,.rowC 10250002 3 tI,.rowC 10250003 78 (.slice tI),.rowC 10250004 3 tI,.rowC 10250005 3 tI,.rowC 10250006 3 tI,.rowC 10250007 4 .bool],fun _=>0⟩)]
def yF:aK:=⟨[.box [.row 3 tI,.row 3 tI,.row 78 (.slice tI),.row 3 tI,.row 3 tI,.row 3 tI,.row 4 .bool,.val (.st (.pair tI (.pair tI (.pair tI (.pair tI tI)))))],.val bB,.val bK],[.val tI],fun x=>xb x.1 x.2.1 x.2.2.1⟩
noncomputable def QT:Cx:=⟨tpr,[(81,qF),(82,nY),(140,BQ),(141,Hv)]⟩
theorem Qo:aQ QT OK none Tryz.f84 yF:=by intro x;kernel_rfl
theorem QE:aA tpr 84:=ay Tryz.func84 rfl (by decide)
theorem Sr:aM tpr 84 yF:=aI Qo (.cons BN BG (.cons wQ wT (.cons PA Po (.cons aal Z7 (.nil _))))) aJ Tryz.func84
def Sp:List (Nat×Ann):=[(5,⟨[(0,.ref 2000 0),(2,.val tI),(4,.ref 4 0),(8,.val tI),(38,.val (.slice b7)),(39,.val tI),(40,.val tI)],[(4,dF),(2000,I9)],[.rowC 10250001 3 tI,.rowC 10250002 3 tI,.rowC 10250003 78 (.slice tI),.rowC 10250004 3 tI,.rowC 10250005 3 tI,.rowC 10250006 3 tI,.rowC 10250007 4 .bool],aT _⟩),
 (12,⟨[(2,.val tI),(4,.ref 4 0),(8,.val tI),(79,.rowR 10250003),(80,.val tI),(81,.val tI)],[(4,dF),(2000,I9)],[.rowC 10250001 3 tI,.rowC 10250002 3 tI,.rowC 10250003 78 (.slice tI),.rowC 10250004 3 tI,.rowC 10250005 3 tI,.rowC 10250006 3 tI,.rowC 10250007 4 .bool],aT _⟩),
 (200005,⟨[(0,.ref 2000 0),(2,.val tI),(4,.ref 4 0),(8,.val tI)],[(4,dF),(2000,I9)],[.rowC 10250001 3 tI,.rowC 10250002 3 tI,.rowC 10250003 78 (.slice tI),.rowC 10250004 3 tI,.rowC 10250005 3 tI,.rowC 10250006 3 tI,.rowC 10250007 4 .bool],fun _=>0⟩),
 (200012,⟨[(8,.val tI)],[(2000,I9)],[.rowC 10250001 3 tI,.rowC 10250002 3 tI,.rowC 10250003 78 (.slice tI),.rowC 10250004 3 tI,.rowC 10250005 3 tI,.rowC 10250006 3 tI,.rowC 10250007 4 .bool],fun _=>0⟩)]
def Cc:aK:=⟨[.box [.row 3 tI,.row 3 tI,.row 78 (.slice tI),.row 3 tI,.row 3 tI,.row 3 tI,.row 4 .bool,.val (.st (.pair tI (.pair tI (.pair tI (.pair tI tI)))))],.val bB,.val tI],[.val tI,.val .bool],fun x=>Bh x.1 x.2.1 x.2.2.1⟩
noncomputable def UX:Cx:=⟨tpr,[(82,nY),(142,zn)]⟩
theorem Tl:aQ UX Sp none Tryz.f85 Cc:=by intro x;kernel_rfl
theorem U5:aA tpr 85:=ay Tryz.func85 rfl (by decide)
theorem UD:aM tpr 85 Cc:=aI Tl (.cons wQ wT (.cons MX Ng (.nil _))) aJ Tryz.func85
def aav:List (Nat×Ann):=[(3,⟨[(1,.ref 1 0),(2,.ref 2 0),(4,.ref 4 0),(32,.val (.slice b7)),(33,.val tI),(34,.val tI)],[(1,dF),(2,zL),(4,agl)],[.rowC 25 3 tI,.rowC 29 4 .bool],aT _⟩),
 (15,⟨[(1,.ref 1 0),(2,.ref 2 0),(4,.ref 4 0),(78,.rowR 25),(79,.val tI),(80,.val tI)],[(1,dF),(2,zL),(4,agl)],[.rowC 25 3 tI,.rowC 29 4 .bool],aT _⟩),
 (22,⟨[(1,.ref 1 0),(2,.ref 2 0),(4,.ref 4 0),(94,.val (.slice bK)),(95,.val tI),(96,.val tI)],[(1,dF),(2,zL),(4,zL)],[],aT _⟩),
 (29,⟨[(1,.ref 1 0),(2,.ref 2 0),(4,.ref 4 0),(110,.val tI),(111,.val tI)],[(1,dF),(2,zL),(4,zL)],[],aT _⟩),
 (38,⟨[(2,.ref 2 0),(4,.ref 4 0),(138,.val (.slice tI)),(139,.val tI),(140,.val tI)],[(2,zL),(4,afD)],[],aT _⟩),
 (45,⟨[(2,.ref 2 0),(4,.ref 4 0),(171,.val (.st (.pair tI (.pair tI (.pair tI (.pair tI tI)))))),(172,.val tI)],[(2,zL),(4,afD)],[],aT _⟩),
 (200003,⟨[(1,.ref 1 0),(2,.ref 2 0),(4,.ref 4 0)],[(1,dF),(2,zL),(4,agl)],[.rowC 25 3 tI,.rowC 29 4 .bool],fun _=>0⟩),
 (200015,⟨[(1,.ref 1 0),(2,.ref 2 0),(4,.ref 4 0)],[(1,dF),(2,zL),(4,agl)],[.rowC 25 3 tI,.rowC 29 4 .bool],fun _=>0⟩),
 (200022,⟨[(1,.ref 1 0),(2,.ref 2 0),(4,.ref 4 0)],[(1,dF),(2,zL),(4,zL)],[],fun _=>0⟩),
 (200029,⟨[(2,.ref 2 0),(4,.ref 4 0)],[(2,zL),(4,zL)],[],fun _=>0⟩),
 (200038,⟨[(2,.ref 2 0),(4,.ref 4 0)],[(2,zL),(4,afD)],[],fun _=>0⟩),
 (200045,⟨[(2,.ref 2 0),(4,.ref 4 0)],[(2,zL),(4,afD)],[],fun _=>0⟩)]
def FZ:aK:=⟨[.val bB],[.val p6,.val tI],fun x=>J6 x.1⟩
noncomputable def aeh:Cx:=⟨tpr,[(80,NM),(81,qF),(82,nY),(83,wo),(84,yF),(85,Cc)]⟩
theorem acO:aQ aeh aav none Tryz.f32 FZ:=by intro x;kernel_rfl
theorem Uf:aA tpr 32:=ay Tryz.func32 rfl (by decide)
theorem Uo:aM tpr 32 FZ:=aI acO (.cons afP afw (.cons BN BG (.cons wQ wT (.cons Qh P9 (.cons Sr QE (.cons UD U5 (.nil _))))))) aJ Tryz.func32
def AY:aK:=⟨[.val bB,.val tI],[.val aN],fun x=>se x.1 x.2.1⟩
noncomputable def adG:Cx:=⟨tpr,[]⟩
theorem acN:aQ adG [] none Tryz.f34 AY:=by intro x;kernel_rfl
theorem Me:aA tpr 34:=ay Tryz.func34 rfl (by decide)
theorem LA:aM tpr 34 AY:=aI acN (.nil _) aJ Tryz.func34
def HE:aK:=⟨[.val bB],[.val kE,.val tI],fun x=>It x.1⟩
noncomputable def aas:Cx:=⟨tpr,[(31,mM),(32,FZ),(34,AY)]⟩
theorem Xr:aQ aas [] none Tryz.f13 HE:=by intro x;kernel_rfl
theorem aaF:aA tpr 13:=ay Tryz.func13 rfl (by decide)
theorem aad:aM tpr 13 HE:=aI Xr (.cons wM wG (.cons Uo Uf (.cons LA Me (.nil _)))) aJ Tryz.func13
def Lx:aK:=⟨[.val kE],[.val (.slice aN)],fun x=>Fu x.1⟩
noncomputable def aef:Cx:=⟨tpr,[]⟩
theorem abn:aQ aef [] none Tryz.f59 Lx:=by intro x;kernel_rfl
theorem aeo:aA tpr 59:=ay Tryz.func59 rfl (by decide)
theorem aeK:aM tpr 59 Lx:=aI abn (.nil _) aJ Tryz.func59
def Mn:List (Nat×Ann):=[(3,⟨[(0,.val (.ptr p6)),(3,.ref 3 0),(5,.own 35 aL),(9,.val (.slice cg)),(10,.val tI),(11,.val tI)],[(3,dF)],[],aT _⟩),
 (200003,⟨[(5,.own 35 aL)],[],[],fun _=>0⟩)]
def ve:aK:=⟨[.val (.ptr p6),.val bB],[.row 35 aL],fun x=>sQ x.1 x.2.1⟩
noncomputable def OR:Cx:=⟨tpr,[(34,AY)]⟩
theorem MV:aQ OR Mn none Tryz.f33 ve:=by intro x;kernel_rfl
theorem NJ:aA tpr 33:=ay Tryz.func33 rfl (by decide)
theorem N9:aM tpr 33 ve:=aI MV (.cons LA Me (.nil _)) aJ Tryz.func33
def Jd:aK:=⟨[.val bB],[.val (.slice aL),.val tI],fun x=>CZ x.1⟩
noncomputable def ac7:Cx:=⟨tpr,[(31,mM),(32,FZ),(33,ve)]⟩
theorem aae:aQ ac7 [] none Tryz.f10 Jd:=by intro x;kernel_rfl
theorem abL:aA tpr 10:=ay Tryz.func10 rfl (by decide)
theorem acd:aM tpr 10 Jd:=aI aae (.cons wM wG (.cons Uo Uf (.cons N9 NJ (.nil _)))) aJ Tryz.func10
def EH:List (Nat×Ann):=[(3,⟨[(0,.val (.slice (.slice aL))),(3,.val tI),(9,.val (.slice (.slice aL))),(10,.val tI),(11,.val tI)],[],[],aT _⟩),
 (11,⟨[(6,.own 35 aL),(25,.val (.slice (.slice aL))),(26,.val tI),(27,.val tI)],[],[],aT _⟩),
 (200003,⟨[(0,.val (.slice (.slice aL))),(3,.val tI)],[],[],fun _=>0⟩),
 (200011,⟨[(6,.own 35 aL)],[],[],fun _=>0⟩)]
def nI:aK:=⟨[.val (.slice (.slice aL))],[.row 35 aL],fun x=>lY x.1⟩
noncomputable def GL:Cx:=⟨tpr,[(123,xd)]⟩
theorem Fi:aQ GL EH none Tryz.f63 nI:=by intro x;kernel_rfl
theorem GW:aA tpr 63:=ay Tryz.func63 rfl (by decide)
theorem Gt:aM tpr 63 nI:=aI Fi (.cons IN Iz (.nil _)) aJ Tryz.func63
def XJ:List (Nat×Ann):=[(2,⟨[(1,.val .str),(5,.ref 5 0),(6,.ref 6 0),(9,.val (.slice aL)),(10,.val tI),(11,.val tI)],[(5,mG),(6,WT)],[],aT _⟩),
 (200002,⟨[(1,.val .str),(5,.ref 5 0),(6,.ref 6 0)],[(5,mG),(6,WT)],[],fun _=>0⟩)]
def Kp:aK:=⟨[.val (.slice aL),.val .str,.val aN],[.val aL],fun x=>GZ x.1 x.2.1 x.2.2.1⟩
noncomputable def abA:Cx:=⟨tpr,[]⟩
theorem ZC:aQ abA XJ none Tryz.f64 Kp:=by intro x;kernel_rfl
theorem abl:aA tpr 64:=ay Tryz.func64 rfl (by decide)
theorem acY:aM tpr 64 Kp:=aI ZC (.nil _) aJ Tryz.func64
def Yc:List (Nat×Ann):=[(5,⟨[(2,.val (.slice aL)),(3,.ref 3 0),(4,.ref 4 0),(8,.ref 8 0),(37,.val (.slice aN)),(38,.val tI),(39,.val tI)],[(3,dF),(4,Iq),(8,Iq)],[],aT _⟩),
 (14,⟨[(2,.val (.slice aL)),(3,.ref 3 0),(4,.ref 4 0),(8,.ref 8 0),(52,.val (.slice aL)),(53,.val tI),(54,.val tI)],[(3,dF),(4,Iq),(8,Iq)],[],aT _⟩),
 (25,⟨[(2,.val (.slice aL)),(3,.ref 3 0),(8,.ref 8 0),(15,.own 69 dc),(91,.val (.slice aN)),(92,.val tI),(93,.val tI)],[(3,dF),(8,Iq)],[],aT _⟩),
 (34,⟨[(2,.val (.slice aL)),(3,.ref 3 0),(15,.own 69 dc),(19,.val (.slice aL)),(21,.own 9 .str),(124,.rowR 265488),(125,.val tI),(126,.val tI)],[(3,dF)],[.rowC 265488 35 aL],aT _⟩),
 (40,⟨[(2,.val (.slice aL)),(3,.ref 3 0),(15,.own 69 dc),(19,.val (.slice aL)),(139,.rowR 296208),(140,.val tI),(141,.val tI)],[(3,dF)],[.rowC 296208 9 .str],aT _⟩),
 (100044,⟨[(2,.val (.slice aL)),(3,.ref 3 0),(15,.own 69 dc),(19,.val (.slice aL)),(25,.val .str),(26,.ref 26 0),(27,.ref 27 0),(139,.rowR 296208),(140,.val tI),(141,.val tI)],[(3,dF),(26,WT),(27,WT)],[.rowC 296208 9 .str],fun _=>0⟩),
 (200005,⟨[(2,.val (.slice aL)),(3,.ref 3 0),(4,.ref 4 0),(8,.ref 8 0)],[(3,dF),(4,Iq),(8,Iq)],[],fun _=>0⟩),
 (200014,⟨[(2,.val (.slice aL)),(3,.ref 3 0),(4,.ref 4 0),(8,.ref 8 0)],[(3,dF),(4,Iq),(8,Iq)],[],fun _=>0⟩),
 (200025,⟨[(2,.val (.slice aL)),(3,.ref 3 0),(15,.own 69 dc)],[(3,dF)],[],fun _=>0⟩),
 (200034,⟨[(2,.val (.slice aL)),(3,.ref 3 0),(15,.own 69 dc),(19,.val (.slice aL)),(21,.own 9 .str)],[(3,dF)],[],fun _=>0⟩),
 (200040,⟨[(15,.own 69 dc)],[],[],fun _=>0⟩)]
def Ka:aK:=⟨[.val bB,.val kE,.val (.slice aL)],[.row 69 dc,.val tI],fun x=>Ld x.1 x.2.1 x.2.2.1⟩
noncomputable def aco:Cx:=⟨tpr,[(10,Jd),(13,HE),(34,AY),(57,tu),(58,pX),(59,Lx),(60,kZ),(61,tY),(62,Ix),(63,nI),(64,Kp)]⟩
theorem aax:aQ aco Yc none Tryz.f25 Ka:=by intro x;kernel_rfl
theorem acV:aA tpr 25:=ay Tryz.func25 rfl (by decide)
theorem abY:aM tpr 25 Ka:=aI aax (.cons acd abL (.cons aad aaF (.cons LA Me (.cons CQ CP (.cons ye yG (.cons aeK aeo (.cons rB qO (.cons D9 Dw (.cons V5 Xe (.cons Gt GW (.cons acY abl (.nil _)))))))))))) aJ Tryz.func25
def Hu:List (Nat×Ann):=[(4,⟨[(0,.val (.slice dc)),(1,.val (.slice dc)),(12,.val tI),(13,.val tI)],[],[],aT _⟩),
 (200004,⟨[],[],[],fun _=>0⟩)]
def pK:aK:=⟨[.val (.slice dc),.val (.slice dc)],[.val .bool],fun x=>oe x.1 x.2.1⟩
noncomputable def Jz:Cx:=⟨tpr,[]⟩
theorem Ic:aQ Jz Hu none Tryz.f26 pK:=by intro x;kernel_rfl
theorem Jy:aA tpr 26:=ay Tryz.func26 rfl (by decide)
theorem I8:aM tpr 26 pK:=aI Ic (.nil _) aJ Tryz.func26
def pJ:aK:=⟨[.val (.slice cg)],[.val (.slice cg)],fun x=>lf x.1⟩
noncomputable def JQ:Cx:=⟨tpr,[]⟩
theorem Ie:aQ JQ [] none Tryz.f40 pJ:=by intro x;kernel_rfl
theorem Jr:aA tpr 40:=ay Tryz.func40 rfl (by decide)
theorem JS:aM tpr 40 pJ:=aI Ie (.nil _) aJ Tryz.func40
def jB:aK:=⟨[.val (.slice b7)],[.row 97 b7],fun x=>ez x.1⟩
noncomputable def EU:Cx:=⟨tpr,[]⟩
theorem EF:aQ EU [] none Tryz.f41 jB:=by intro x;kernel_rfl
theorem tX:aA tpr 41:=ay Tryz.func41 rfl (by decide)
theorem s6:aM tpr 41 jB:=aI EF (.nil _) aJ Tryz.func41
def lB:aK:=⟨[.val (.slice bK)],[.row 102 bK],fun x=>kG x.1⟩
noncomputable def Il:Cx:=⟨tpr,[]⟩
theorem HF:aQ Il [] none Tryz.f95 lB:=by intro x;kernel_rfl
theorem xg:aA tpr 95:=ay Tryz.func95 rfl (by decide)
theorem wR:aM tpr 95 lB:=aI HF (.nil _) aJ Tryz.func95
def Bb:aK:=⟨[.val aN],[.val aN],fun x=>DS x.1⟩
noncomputable def ZX:Cx:=⟨tpr,[]⟩
theorem XO:aQ ZX [] none Tryz.f43 Bb:=by intro x;kernel_rfl
theorem Pr:aA tpr 43:=ay Tryz.func43 rfl (by decide)
theorem Pq:aM tpr 43 Bb:=aI XO (.nil _) aJ Tryz.func43
def QF:List (Nat×Ann):=[(3,⟨[(0,.rowR 23824),(7,.rowR 23824),(8,.val tI),(9,.val tI)],[],[.rowC 23824 102 bK],aT _⟩),
 (200003,⟨[(0,.rowR 23824)],[],[.rowC 23824 102 bK],fun _=>0⟩)]
def Cb:aK:=⟨[.val (.slice bK)],[.val (.slice bK)],fun x=>oy x.1⟩
noncomputable def Vb:Cx:=⟨tpr,[(43,Bb),(95,lB)]⟩
theorem Tj:aQ Vb QF none Tryz.f42 Cb:=by intro x;kernel_rfl
theorem VC:aA tpr 42:=ay Tryz.func42 rfl (by decide)
theorem UW:aM tpr 42 Cb:=aI Tj (.cons Pq Pr (.cons wR xg (.nil _))) aJ Tryz.func42
def QA:List (Nat×Ann):=[(14,⟨[(6,.ref 6 0),(9,.ref 9 0),(51,.rowR 43),(52,.val tI),(53,.val tI)],[(6,aaM),(9,aip)],[.rowC 43 97 b7],aT _⟩),
 (200014,⟨[(6,.ref 6 0),(9,.ref 9 0)],[(6,aaM),(9,aip)],[.rowC 43 97 b7],fun _=>0⟩)]
def Ct:aK:=⟨[.val bB,.val .str,.val tI],[.val bB,.val tI],fun x=>Bi x.1 x.2.1 x.2.2.1⟩
noncomputable def Vl:Cx:=⟨tpr,[(37,oT),(38,kO),(39,gN),(40,pJ),(41,jB),(42,Cb),(43,Bb)]⟩
theorem TH:aQ Vl QA none Tryz.f16 Ct:=by intro x;kernel_rfl
theorem UY:aA tpr 16:=ay Tryz.func16 rfl (by decide)
theorem UM:aM tpr 16 Ct:=aI TH (.cons Ej EC (.cons oz oB (.cons jw jz (.cons JS Jr (.cons s6 tX (.cons UW VC (.cons Pq Pr (.nil _)))))))) aJ Tryz.func16
def DG:aK:=⟨[.val aN],[.val aN],fun x=>GD x.1⟩
noncomputable def abO:Cx:=⟨tpr,[]⟩
theorem ZL:aQ abO [] none Tryz.f46 DG:=by intro x;kernel_rfl
theorem Rf:aA tpr 46:=ay Tryz.func46 rfl (by decide)
theorem RI:aM tpr 46 DG:=aI ZL (.nil _) aJ Tryz.func46
def Wt:List (Nat×Ann):=[(3,⟨[(3,.rowR 25872),(8,.rowR 25872),(9,.val tI),(10,.val tI)],[],[.rowC 25872 102 bK],aT _⟩),
 (200003,⟨[(3,.rowR 25872)],[],[.rowC 25872 102 bK],fun _=>0⟩)]
def HO:aK:=⟨[.val (.slice bK)],[.val (.slice bK)],fun x=>uU x.1⟩
noncomputable def aaE:Cx:=⟨tpr,[(46,DG),(95,lB)]⟩
theorem X6:aQ aaE Wt none Tryz.f66 HO:=by intro x;kernel_rfl
theorem Zr:aA tpr 66:=ay Tryz.func66 rfl (by decide)
theorem aaH:aM tpr 66 HO:=aI X6 (.cons RI Rf (.cons wR xg (.nil _))) aJ Tryz.func66
def TE:List (Nat×Ann):=[(14,⟨[(6,.ref 6 0),(9,.ref 9 0),(51,.rowR 109840),(52,.val tI),(53,.val tI)],[(6,aaM),(9,aiu)],[.rowC 109840 97 b7],aT _⟩),
 (200014,⟨[(6,.ref 6 0),(9,.ref 9 0)],[(6,aaM),(9,aiu)],[.rowC 109840 97 b7],fun _=>0⟩)]
def Du:aK:=⟨[.val bB,.val .str,.val tI],[.val bB,.val tI],fun x=>Dz x.1 x.2.1 x.2.2.1⟩
noncomputable def Wn:Cx:=⟨tpr,[(31,mM),(41,jB),(46,DG),(61,tY),(65,qG),(66,HO)]⟩
theorem Ur:aQ Wn TE none Tryz.f27 Du:=by intro x;kernel_rfl
theorem VJ:aA tpr 27:=ay Tryz.func27 rfl (by decide)
theorem Wb:aM tpr 27 Du:=aI Ur (.cons wM wG (.cons s6 tX (.cons RI Rf (.cons D9 Dw (.cons Ba BS (.cons aaH Zr (.nil _))))))) aJ Tryz.func27
def GM:List (Nat×Ann):=[(4,⟨[(0,.val (.slice bK)),(1,.val (.slice bK)),(12,.val tI),(13,.val tI)],[],[],aT _⟩),
 (200004,⟨[],[],[],fun _=>0⟩)]
def o3:aK:=⟨[.val (.slice bK),.val (.slice bK)],[.val .bool],fun x=>kI x.1 x.2.1⟩
noncomputable def IL:Cx:=⟨tpr,[]⟩
theorem HK:aQ IL GM none Tryz.f44 o3:=by intro x;kernel_rfl
theorem IF:aA tpr 44:=ay Tryz.func44 rfl (by decide)
theorem Ij:aM tpr 44 o3:=aI HK (.nil _) aJ Tryz.func44
def Hl:List (Nat×Ann):=[(4,⟨[(0,.val (.slice cg)),(1,.val (.slice cg)),(12,.val tI),(13,.val tI)],[],[],aT _⟩),
 (200004,⟨[],[],[],fun _=>0⟩)]
def p5:aK:=⟨[.val (.slice cg),.val (.slice cg)],[.val .bool],fun x=>n9 x.1 x.2.1⟩
noncomputable def Jj:Cx:=⟨tpr,[]⟩
theorem IK:aQ Jj Hl none Tryz.f45 p5:=by intro x;kernel_rfl
theorem Jp:aA tpr 45:=ay Tryz.func45 rfl (by decide)
theorem JD:aM tpr 45 p5:=aI IK (.nil _) aJ Tryz.func45
def ZU:List (Nat×Ann):=[(4,⟨[(2,.ref 2 0),(3,.ref 3 0),(58,.val (.slice b7)),(59,.val tI),(60,.val tI)],[(2,dF),(3,dF)],[],aT _⟩),
 (200004,⟨[(2,.ref 2 0),(3,.ref 3 0)],[(2,dF),(3,dF)],[],fun _=>0⟩)]
def LG:aK:=⟨[.val bB,.val bB],[.val .bool],fun x=>Fg x.1 x.2.1⟩
noncomputable def adO:Cx:=⟨tpr,[(44,o3),(45,p5)]⟩
theorem ac8:aQ adO ZU none Tryz.f17 LG:=by intro x;kernel_rfl
theorem aer:aA tpr 17:=ay Tryz.func17 rfl (by decide)
theorem adS:aM tpr 17 LG:=aI ac8 (.cons Ij IF (.cons JD Jp (.nil _))) aJ Tryz.func17
def uB:aK:=⟨[.val gC,.val (.ptr gC)],[.val .bool],fun x=>Ia x.1 x.2.1⟩
noncomputable def O7:Cx:=⟨tpr,[]⟩
theorem NC:aQ O7 [] none Tryz.f49 uB:=by intro x;kernel_rfl
theorem Ol:aA tpr 49:=ay Tryz.func49 rfl (by decide)
theorem Oe:aM tpr 49 uB:=aI NC (.nil _) aJ Tryz.func49
def DW:List (Nat×Ann):=[(2,⟨[(0,.val (.slice gC)),(1,.val (.clo 49 (.ptr gC))),(7,.val tI),(8,.val tI)],[],[],aT _⟩),
 (200002,⟨[],[],[],fun _=>0⟩)]
def m8:aK:=⟨[.val (.slice gC),.val (.clo 49 (.ptr gC))],[.val tI],fun x=>wZ x.1 x.2.1⟩
noncomputable def EV:Cx:=⟨tpr,[(49,uB)]⟩
theorem EI:aQ EV DW none Tryz.f101 m8:=by intro x;kernel_rfl
theorem Ff:aA tpr 101:=ay Tryz.func101 rfl (by decide)
theorem Fw:aM tpr 101 m8:=aI EI (.cons Oe Ol (.nil _)) aJ Tryz.func101
def lG:aK:=⟨[.val (.slice gC),.val (.clo 49 (.ptr gC))],[.val .bool],fun x=>tg x.1 x.2.1⟩
noncomputable def Dh:Cx:=⟨tpr,[(101,m8)]⟩
theorem CC:aQ Dh [] none Tryz.f48 lG:=by intro x;kernel_rfl
theorem Dk:aA tpr 48:=ay Tryz.func48 rfl (by decide)
theorem Dj:aM tpr 48 lG:=aI CC (.cons Fw Ff (.nil _)) aJ Tryz.func48
def rG:aK:=⟨[.val aN],[.val tI],fun x=>qP x.1⟩
noncomputable def QM:Cx:=⟨tpr,[(102,dy),(103,nX)]⟩
theorem PS:aQ QM [] none Tryz.f51 rG:=by intro x;kernel_rfl
theorem GS:aA tpr 51:=ay Tryz.func51 rfl (by decide)
theorem GN:aM tpr 51 rG:=aI PS (.cons gv gu (.cons w8 wX (.nil _))) aJ Tryz.func51
def N5:List (Nat×Ann):=[(4,⟨[(0,.val (.slice gC)),(9,.val (.slice gC)),(10,.val tI),(11,.val tI)],[],[],aT _⟩),
 (200004,⟨[],[],[],fun _=>0⟩)]
def xI:aK:=⟨[.val (.slice gC)],[.val tI],fun x=>KN x.1⟩
noncomputable def RZ:Cx:=⟨tpr,[(38,kO),(39,gN),(48,lG),(50,yg),(51,rG)]⟩
theorem PX:aQ RZ N5 none Tryz.f21 xI:=by intro x;kernel_rfl
theorem Se:aA tpr 21:=ay Tryz.func21 rfl (by decide)
theorem RX:aM tpr 21 xI:=aI PX (.cons oz oB (.cons jw jz (.cons Dj Dk (.cons JG Ks (.cons GN GS (.nil _)))))) aJ Tryz.func21
def JE:List (Nat×Ann):=[(2,⟨[(0,.val (.slice .str)),(1,.val .str),(7,.val tI),(8,.val tI)],[],[],aT _⟩),
 (200002,⟨[],[],[],fun _=>0⟩)]
def rY:aK:=⟨[.val (.slice .str),.val .str],[.val tI],fun x=>EM x.1 x.2.1⟩
noncomputable def Mh:Cx:=⟨tpr,[]⟩
theorem KD:aQ Mh JE none Tryz.f204 rY:=by intro x;kernel_rfl
theorem LV:aA tpr 204:=ay Tryz.func204 rfl (by decide)
theorem MB:aM tpr 204 rY:=aI KD (.nil _) aJ Tryz.func204
def oU:aK:=⟨[.val (.slice .str),.val .str],[.val .bool],fun x=>AT x.1 x.2.1⟩
noncomputable def Iw:Cx:=⟨tpr,[(204,rY)]⟩
theorem HX:aQ Iw [] none Tryz.f161 oU:=by intro x;kernel_rfl
theorem IQ:aA tpr 161:=ay Tryz.func161 rfl (by decide)
theorem Is:aM tpr 161 oU:=aI HX (.cons MB LV (.nil _)) aJ Tryz.func161
def KI:List (Nat×Ann):=[(4,⟨[(0,.val (.slice cV)),(11,.val (.slice cV)),(12,.val tI),(13,.val tI)],[],[],aT _⟩),
 (16,⟨[(0,.val (.slice cV)),(4,.ref 4 0),(11,.val (.slice cV)),(12,.val tI),(13,.val tI),(46,.val (.slice .str)),(47,.val tI),(48,.val tI)],[(4,aaU)],[],aT _⟩),
 (200004,⟨[],[],[],fun _=>0⟩),
 (200016,⟨[(0,.val (.slice cV)),(11,.val (.slice cV)),(12,.val tI),(13,.val tI)],[],[],fun _=>0⟩)]
def tQ:aK:=⟨[.val (.slice cV)],[.val tI],fun x=>G5 x.1⟩
noncomputable def MK:Cx:=⟨tpr,[(38,kO),(50,yg),(51,rG),(161,oU)]⟩
theorem LM:aQ MK KI none Tryz.f104 tQ:=by intro x;kernel_rfl
theorem M5:aA tpr 104:=ay Tryz.func104 rfl (by decide)
theorem Nr:aM tpr 104 tQ:=aI LM (.cons oz oB (.cons JG Ks (.cons GN GS (.cons Is IQ (.nil _))))) aJ Tryz.func104
def zO:aK:=⟨[.val (.slice gC),.val (.slice cV)],[.val tI],fun x=>Na x.1 x.2.1⟩
noncomputable def TL:Cx:=⟨tpr,[(21,xI),(104,tQ)]⟩
theorem RL:aQ TL [] none Tryz.f52 zO:=by intro x;kernel_rfl
theorem TP:aA tpr 52:=ay Tryz.func52 rfl (by decide)
theorem Tr:aM tpr 52 zO:=aI RL (.cons RX Se (.cons Nr M5 (.nil _))) aJ Tryz.func52
def Hj:aK:=⟨[.val aN],[.val tI],fun x=>Oh x.1⟩
noncomputable def Zu:Cx:=⟨tpr,[(160,vO)]⟩
theorem Yy:aQ Zu [] none Tryz.f105 Hj:=by intro x;kernel_rfl
theorem aah:aA tpr 105:=ay Tryz.func105 rfl (by decide)
theorem Zs:aM tpr 105 Hj:=aI Yy (.cons HD Hz (.nil _)) aJ Tryz.func105
def ot:aK:=⟨[.val (.slice .hnd)],[.row 113 .hnd],fun x=>zJ x.1⟩
noncomputable def Hr:Cx:=⟨tpr,[]⟩
theorem G6:aQ Hr [] none Tryz.f106 ot:=by intro x;kernel_rfl
theorem HZ:aA tpr 106:=ay Tryz.func106 rfl (by decide)
theorem HY:aM tpr 106 ot:=aI G6 (.nil _) aJ Tryz.func106
def z7:aK:=⟨[.val .hnd,.arR bu],[.val tI],fun x=>Fa x.1 x.2.1⟩
noncomputable def TC:Cx:=⟨tpr,[]⟩
theorem QU:aQ TC [] none Tryz.f109 z7:=by intro x;kernel_rfl
theorem Td:aA tpr 109:=ay Tryz.func109 rfl (by decide)
theorem Tm:aM tpr 109 z7:=aI QU (.nil _) aJ Tryz.func109
def rC:aK:=⟨[.val .hnd,.val .hnd,.arR bu],[.val tI],fun x=>rq x.1 x.2.1 x.2.2.1⟩
noncomputable def R7:Cx:=⟨tpr,[(109,z7)]⟩
theorem PU:aQ R7 [] none Tryz.f108 rC:=by intro x;kernel_rfl
theorem Gs:aA tpr 108:=ay Tryz.func108 rfl (by decide)
theorem Hf:aM tpr 108 rC:=aI PU (.cons Tm Td (.nil _)) aJ Tryz.func108
def sA:List (Nat×Ann):=[(1,⟨[(0,.rowR 10250000),(1,.val tI),(2,.val tI),(3,.val (.clo 108 .unit)),(8,.val tI)],[],[.rowC 10250000 113 .hnd,.arF bu],aT _⟩),
 (4,⟨[(0,.rowR 10250000),(1,.val tI),(2,.val tI),(3,.val (.clo 108 .unit)),(8,.val tI),(9,.val tI)],[],[.rowC 10250000 113 .hnd,.arF bu],aT _⟩),
 (200001,⟨[],[],[.rowC 10250000 113 .hnd,.arF bu],fun _=>0⟩),
 (200004,⟨[(0,.rowR 10250000),(1,.val tI),(2,.val tI),(3,.val (.clo 108 .unit)),(8,.val tI)],[],[.rowC 10250000 113 .hnd,.arF bu],fun _=>0⟩)]
def gY:aK:=⟨[.mrow 113 .hnd,.val tI,.val tI,.val (.clo 108 .unit),.arR bu],[],fun x=>iL x.1 x.2.1 x.2.2.1 x.2.2.2.1 x.2.2.2.2.1⟩
noncomputable def uq:Cx:=⟨tpr,[(108,rC)]⟩
theorem uh:aQ uq sA none Tryz.f205 gY:=by intro x;kernel_rfl
theorem uu:aA tpr 205:=ay Tryz.func205 rfl (by decide)
theorem um:aM tpr 205 gY:=aI uh (.cons Hf Gs (.nil _)) aJ Tryz.func205
def vU:List (Nat×Ann):=[(1,⟨[(0,.rowR 10250000),(1,.val tI),(2,.val tI),(3,.val tI),(10,.val tI)],[],[.rowC 10250000 113 .hnd,.arF bu],aT _⟩),
 (200001,⟨[],[],[.rowC 10250000 113 .hnd,.arF bu],fun _=>0⟩)]
def iZ:aK:=⟨[.mrow 113 .hnd,.val tI,.val tI,.val tI,.val (.clo 108 .unit),.arR bu],[],fun x=>gE x.1 x.2.1 x.2.2.1 x.2.2.2.1 x.2.2.2.2.1 x.2.2.2.2.2.1⟩
noncomputable def xz:Cx:=⟨tpr,[]⟩
theorem wu:aQ xz vU none Tryz.f240 iZ:=by intro x;kernel_rfl
theorem xC:aA tpr 240:=ay Tryz.func240 rfl (by decide)
theorem xo:aM tpr 240 iZ:=aI wu (.nil _) aJ Tryz.func240
def yO:List (Nat×Ann):=[(2,⟨[(0,.rowR 10250000),(2,.val tI),(4,.val (.clo 108 .unit)),(10,.val tI),(11,.val tI)],[],[.rowC 10250000 113 .hnd,.arF bu],aT _⟩),
 (200002,⟨[(0,.rowR 10250000),(2,.val tI),(4,.val (.clo 108 .unit)),(10,.val tI)],[],[.rowC 10250000 113 .hnd,.arF bu],fun _=>0⟩)]
def jM:aK:=⟨[.mrow 113 .hnd,.val tI,.val tI,.val tI,.val (.clo 108 .unit),.arR bu],[],fun x=>qk x.1 x.2.1 x.2.2.1 x.2.2.2.1 x.2.2.2.2.1 x.2.2.2.2.2.1⟩
noncomputable def Al:Cx:=⟨tpr,[(240,iZ)]⟩
theorem zB:aQ Al yO none Tryz.f231 jM:=by intro x;kernel_rfl
theorem Ar:aA tpr 231:=ay Tryz.func231 rfl (by decide)
theorem Ae:aM tpr 231 jM:=aI zB (.cons xo xC (.nil _)) aJ Tryz.func231
def mT:List (Nat×Ann):=[(3,⟨[(0,.rowR 10250000),(1,.val tI),(4,.val (.clo 108 .unit)),(10,.val tI),(11,.val tI)],[],[.rowC 10250000 113 .hnd,.arF bu],aT _⟩),
 (9,⟨[(0,.rowR 10250000),(10,.val tI),(13,.val tI)],[],[.rowC 10250000 113 .hnd,.arF bu],aT _⟩),
 (15,⟨[(0,.rowR 10250000),(2,.val tI),(4,.val (.clo 108 .unit)),(14,.val tI),(15,.val tI)],[],[.rowC 10250000 113 .hnd,.arF bu],aT _⟩),
 (21,⟨[(0,.rowR 10250000),(14,.val tI),(17,.val tI)],[],[.rowC 10250000 113 .hnd,.arF bu],aT _⟩),
 (33,⟨[(0,.rowR 10250000),(1,.val tI),(2,.val tI),(3,.val tI),(4,.val (.clo 108 .unit)),(18,.val tI),(19,.val tI),(20,.val tI),(21,.val tI),(22,.val tI)],[],[.rowC 10250000 113 .hnd,.arF bu],aT _⟩),
 (100030,⟨[(0,.rowR 10250000),(1,.val tI),(2,.val tI),(3,.val tI),(4,.val (.clo 108 .unit)),(18,.val tI),(19,.val tI),(20,.val tI),(21,.val tI)],[],[.rowC 10250000 113 .hnd,.arF bu],fun _=>0⟩),
 (100040,⟨[(0,.rowR 10250000),(1,.val tI),(3,.val tI),(4,.val (.clo 108 .unit)),(18,.val tI),(20,.val tI),(24,.val tI)],[],[.rowC 10250000 113 .hnd,.arF bu],fun _=>0⟩),
 (100042,⟨[(0,.rowR 10250000),(3,.val tI),(4,.val (.clo 108 .unit)),(18,.val tI),(24,.val tI)],[],[.rowC 10250000 113 .hnd,.arF bu],fun _=>0⟩),
 (200003,⟨[(0,.rowR 10250000),(1,.val tI),(10,.val tI)],[],[.rowC 10250000 113 .hnd,.arF bu],fun _=>0⟩),
 (200009,⟨[],[],[.rowC 10250000 113 .hnd,.arF bu],fun _=>0⟩),
 (200015,⟨[(0,.rowR 10250000),(2,.val tI),(14,.val tI)],[],[.rowC 10250000 113 .hnd,.arF bu],fun _=>0⟩),
 (200021,⟨[],[],[.rowC 10250000 113 .hnd,.arF bu],fun _=>0⟩),
 (200033,⟨[(0,.rowR 10250000),(1,.val tI),(2,.val tI),(3,.val tI),(4,.val (.clo 108 .unit)),(18,.val tI),(19,.val tI),(20,.val tI)],[],[.rowC 10250000 113 .hnd,.arF bu],fun _=>0⟩)]
def bY:List PM:=[.mrow 113 .hnd,.val tI,.val tI,.val tI,.val (.clo 108 .unit),.arR bu]
def cH:List RM:=[]
noncomputable def nk:List (Nat×aK):=[(108,rC),(231,jM)]
def nG:aK:=⟨bY,cH,fun x=>kr x.1 x.2.1 x.2.2.1 x.2.2.2.1 x.2.2.2.2.1 x.2.2.2.2.2.1⟩
theorem xu:∀ (self:gU bY→Option (dX bY cH)) (x:gU bY),Sk ⟨tpr,(206,⟨bY,cH,self⟩)::nk⟩ mT none Tryz.f206 ⟨bY,cH,fun x=>dP self x.1 x.2.1 x.2.2.1 x.2.2.2.1 x.2.2.2.2.1 x.2.2.2.2.2.1⟩ x=dP self x.1 x.2.1 x.2.2.1 x.2.2.2.1 x.2.2.2.2.1 x.2.2.2.2.2.1:=by intro self x;kernel_rfl
theorem nH:aA tpr 206:=ay Tryz.func206 rfl (by decide)
theorem x5:aM tpr 206 nG:=T9 (ps:=bY) (rs:=cH) (m:=fun n x=>FI (fun self x=>dP self x.1 x.2.1 x.2.2.1 x.2.2.2.1 x.2.2.2.2.1 x.2.2.2.2.2.1) n x) (Oa (P:=Tryz.prog) (specs:=nk) (ps:=bY) (rs:=cH) (.cons Hf Gs (.cons Ae Ar (.nil _))) (by kernel_rfl) (fun self x=>dP self x.1 x.2.1 x.2.2.1 x.2.2.2.1 x.2.2.2.2.1 x.2.2.2.2.2.1) mT none (by kernel_rfl) nH xu) (fun x=>mJ x.1 x.2.1 x.2.2.1 x.2.2.2.1 x.2.2.2.2.1 x.2.2.2.2.2.1)
def xR:List (Nat×Ann):=[(2,⟨[(0,.rowR 10250000),(1,.val tI),(2,.val (.clo 108 .unit)),(6,.val tI),(7,.val tI),(8,.val tI)],[],[.rowC 10250000 113 .hnd,.arF bu],aT _⟩),
 (7,⟨[(0,.rowR 10250000),(1,.val tI),(2,.val (.clo 108 .unit)),(6,.val tI)],[],[.rowC 10250000 113 .hnd,.arF bu],aT _⟩),
 (9,⟨[(0,.rowR 10250000),(1,.val tI),(2,.val (.clo 108 .unit)),(6,.val tI),(7,.val tI),(8,.val tI)],[],[.rowC 10250000 113 .hnd,.arF bu],aT _⟩),
 (200002,⟨[(0,.rowR 10250000),(1,.val tI),(2,.val (.clo 108 .unit)),(6,.val tI),(7,.val tI)],[],[.rowC 10250000 113 .hnd,.arF bu],fun _=>0⟩),
 (200007,⟨[],[],[.rowC 10250000 113 .hnd,.arF bu],fun _=>0⟩),
 (200009,⟨[(0,.rowR 10250000),(1,.val tI),(2,.val (.clo 108 .unit)),(6,.val tI),(7,.val tI)],[],[.rowC 10250000 113 .hnd,.arF bu],fun _=>0⟩)]
def jT:aK:=⟨[.mrow 113 .hnd,.val tI,.val (.clo 108 .unit),.arR bu],[],fun x=>qm x.1 x.2.1 x.2.2.1 x.2.2.2.1⟩
noncomputable def Ao:Cx:=⟨tpr,[(205,gY),(206,nG)]⟩
theorem zk:aQ Ao xR none Tryz.f162 jT:=by intro x;kernel_rfl
theorem zV:aA tpr 162:=ay Tryz.func162 rfl (by decide)
theorem Ab:aM tpr 162 jT:=aI zk (.cons um uu (.cons x5 nH (.nil _))) aJ Tryz.func162
def jx:aK:=⟨[.mrow 113 .hnd,.val (.clo 108 .unit),.arR bu],[],fun x=>pg x.1 x.2.1 x.2.2.1⟩
noncomputable def yU:Cx:=⟨tpr,[(162,jT)]⟩
theorem yt:aQ yU [] none Tryz.f107 jx:=by intro x;kernel_rfl
theorem zj:aA tpr 107:=ay Tryz.func107 rfl (by decide)
theorem yV:aM tpr 107 jx:=aI yt (.cons Ab zV (.nil _)) aJ Tryz.func107
def yE:aK:=⟨[.val .hnd,.val tI,.arR bu],[.val .bool],fun x=>Dx x.1 x.2.1 x.2.2.1⟩
noncomputable def RV:Cx:=⟨tpr,[]⟩
theorem Ql:aQ RV [] none Tryz.f110 yE:=by intro x;kernel_rfl
theorem Sm:aA tpr 110:=ay Tryz.func110 rfl (by decide)
theorem QB:aM tpr 110 yE:=aI Ql (.nil _) aJ Tryz.func110
def tJ:aK:=⟨[.val .hnd,.arR bu],[.val tI],fun x=>Gv x.1 x.2.1⟩
noncomputable def MR:Cx:=⟨tpr,[(160,vO)]⟩
theorem LX:aQ MR [] none Tryz.f163 tJ:=by intro x;kernel_rfl
theorem M9:aA tpr 163:=ay Tryz.func163 rfl (by decide)
theorem MO:aM tpr 163 tJ:=aI LX (.cons HD Hz (.nil _)) aJ Tryz.func163
def uX:aK:=⟨[.val .hnd,.val tI,.val tI,.ar bu],[.val tI],fun x=>Bo x.1 x.2.1 x.2.2.1 x.2.2.2.1⟩
noncomputable def Vd:Cx:=⟨tpr,[]⟩
theorem TI:aQ Vd [] none Tryz.f112 uX:=by intro x;kernel_rfl
theorem JZ:aA tpr 112:=ay Tryz.func112 rfl (by decide)
theorem Jt:aM tpr 112 uX:=aI TI (.nil _) aJ Tryz.func112
def yl:aK:=⟨[.val .hnd,.val tI,.val tI,.ar bu],[.val tI],fun x=>KP x.1 x.2.1 x.2.2.1 x.2.2.2.1⟩
noncomputable def Sf:Cx:=⟨tpr,[(112,uX),(163,tJ)]⟩
theorem Qm:aQ Sf [] none Tryz.f111 yl:=by intro x;kernel_rfl
theorem RR:aA tpr 111:=ay Tryz.func111 rfl (by decide)
theorem Rg:aM tpr 111 yl:=aI Qm (.cons Jt JZ (.cons MO M9 (.nil _))) aJ Tryz.func111
def QX:List (Nat×Ann):=[(4,⟨[(1,.val (.slice cV)),(2,.val tI),(8,.own 113 .hnd),(9,.mapR 23),(24,.val (.slice gC)),(25,.val tI),(26,.val tI)],[],[.mapC 23 .str .hnd,.ar bu],aT _⟩),
 (14,⟨[(2,.val tI),(8,.own 113 .hnd),(9,.mapR 23),(13,.rowR 105744),(14,.own 3 tI),(49,.val (.slice cV)),(50,.val tI),(51,.val tI)],[],[.rowC 105744 113 .hnd,.mapC 23 .str .hnd,.ar bu],aT _⟩),
 (19,⟨[(2,.val tI),(8,.own 113 .hnd),(9,.mapR 23),(13,.rowR 105744),(14,.own 3 tI),(16,.ref 16 0),(17,.val tI),(49,.val (.slice cV)),(50,.val tI),(51,.val tI),(63,.val (.slice .str)),(64,.val tI),(65,.val tI)],[(16,aaU)],[.rowC 105744 113 .hnd,.mapC 23 .str .hnd,.ar bu],aT _⟩),
 (26,⟨[(2,.val tI),(8,.own 113 .hnd),(9,.mapR 23),(13,.rowR 105744),(14,.own 3 tI),(16,.ref 16 0),(17,.val tI),(49,.val (.slice cV)),(50,.val tI),(51,.val tI),(86,.rowR 105744),(87,.val tI),(88,.val tI)],[(16,aaU)],[.rowC 105744 113 .hnd,.mapC 23 .str .hnd,.ar bu],aT _⟩),
 (200004,⟨[(1,.val (.slice cV)),(2,.val tI),(8,.own 113 .hnd),(9,.mapR 23)],[],[.mapC 23 .str .hnd,.ar bu],fun _=>0⟩),
 (200014,⟨[(8,.own 113 .hnd),(14,.own 3 tI)],[],[.ar bu],fun _=>0⟩),
 (200019,⟨[(2,.val tI),(8,.own 113 .hnd),(9,.mapR 23),(13,.rowR 105744),(14,.own 3 tI),(16,.ref 16 0),(17,.val tI),(49,.val (.slice cV)),(50,.val tI),(51,.val tI)],[(16,aaU)],[.rowC 105744 113 .hnd,.mapC 23 .str .hnd,.ar bu],fun _=>0⟩),
 (200026,⟨[(2,.val tI),(8,.own 113 .hnd),(9,.mapR 23),(13,.rowR 105744),(14,.own 3 tI),(17,.val tI),(49,.val (.slice cV)),(50,.val tI),(51,.val tI)],[],[.rowC 105744 113 .hnd,.mapC 23 .str .hnd,.ar bu],fun _=>0⟩)]
def Ck:aK:=⟨[.val (.slice gC),.val (.slice cV),.val tI,.ar bu],[.val (.slice .hnd),.val (.slice tI)],fun x=>Pw x.1 x.2.1 x.2.2.1 x.2.2.2.1⟩
noncomputable def UJ:Cx:=⟨tpr,[(105,Hj),(106,ot),(107,jx),(110,yE),(111,yl),(112,uX)]⟩
theorem TJ:aQ UJ QX none Tryz.f53 Ck:=by intro x;kernel_rfl
theorem UG:aA tpr 53:=ay Tryz.func53 rfl (by decide)
theorem U7:aM tpr 53 Ck:=aI TJ (.cons Zs aah (.cons HY HZ (.cons yV zj (.cons QB Sm (.cons Rg RR (.cons Jt JZ (.nil _))))))) aJ Tryz.func53
def R8:List (Nat×Ann):=[(2,⟨[(1,.val tI),(2,.ref 2 0),(4,.ref 4 0),(6,.ref 6 0)],[(2,kX),(4,mG),(6,kX)],[],aT _⟩),
 (200002,⟨[(1,.val tI),(2,.ref 2 0),(4,.ref 4 0)],[(2,kX),(4,mG)],[],fun _=>0⟩)]
def Cz:aK:=⟨[.val av,.val tI],[.val aN,.val tI],fun x=>Pz x.1 x.2.1⟩
noncomputable def Vt:Cx:=⟨tpr,[(86,uf),(127,iF),(158,mm),(159,nS),(195,rD)]⟩
theorem TU:aQ Vt R8 none Tryz.f164 Cz:=by intro x;kernel_rfl
theorem Vq:aA tpr 164:=ay Tryz.func164 rfl (by decide)
theorem Vn:aM tpr 164 Cz:=aI TU (.cons Fl FD (.cons kz kJ (.cons sH sN (.cons yd yy (.cons Ee DL (.nil _)))))) aJ Tryz.func164
def HA:aK:=⟨[.val tI],[.val aN,.val tI],fun x=>WA x.1⟩
noncomputable def ZR:Cx:=⟨tpr,[(127,iF),(164,Cz)]⟩
theorem XB:aQ ZR [] none Tryz.f113 HA:=by intro x;kernel_rfl
theorem aaw:aA tpr 113:=ay Tryz.func113 rfl (by decide)
theorem aao:aM tpr 113 HA:=aI XB (.cons kz kJ (.cons Vn Vq (.nil _))) aJ Tryz.func113
def zP:aK:=⟨[.val tI],[.val aN],fun x=>zC x.1⟩
noncomputable def Tb:Cx:=⟨tpr,[(113,HA)]⟩
theorem Rb:aQ Tb [] none Tryz.f54 zP:=by intro x;kernel_rfl
theorem TR:aA tpr 54:=ay Tryz.func54 rfl (by decide)
theorem Tp:aM tpr 54 zP:=aI Rb (.cons aao aaw (.nil _)) aJ Tryz.func54
def aar:List (Nat×Ann):=[(7,⟨[(9,.val (.slice tI)),(10,.own 63 En),(28,.val (.slice .hnd)),(29,.val tI),(30,.val tI)],[],[.ar bu],aT _⟩),
 (13,⟨[(10,.own 63 En),(13,.own 33 aN),(58,.val (.slice tI)),(59,.val tI),(60,.val tI)],[],[.ar bu],aT _⟩),
 (200007,⟨[(9,.val (.slice tI)),(10,.own 63 En)],[],[.ar bu],fun _=>0⟩),
 (200013,⟨[(10,.own 63 En),(13,.own 33 aN)],[],[.ar bu],fun _=>0⟩)]
def Mi:aK:=⟨[.val (.slice gC),.val (.slice cV)],[.val (.slice En),.val (.slice aN),.val tI],fun x=>aa5 x.1 x.2.1⟩
noncomputable def aes:Cx:=⟨tpr,[(52,zO),(53,Ck),(54,zP)]⟩
theorem acJ:aQ aes aar (some bu) Tryz.f22 Mi:=by intro x;kernel_rfl
theorem ad2:aA tpr 22:=ay Tryz.func22 rfl (by decide)
theorem ael:aM tpr 22 Mi:=aI acJ (.cons Tr TP (.cons U7 UG (.cons Tp TR (.nil _)))) aJ Tryz.func22
def Jo:aK:=⟨[],[.val .bool],fun x=>Ro ⟩
noncomputable def acj:Cx:=⟨tpr,[(22,Mi)]⟩
theorem Zp:aQ acj [] none Tryz.f14 Jo:=by intro x;kernel_rfl
theorem acw:aA tpr 14:=ay Tryz.func14 rfl (by decide)
theorem ab9:aM tpr 14 Jo:=aI Zp (.cons ael ad2 (.nil _)) aJ Tryz.func14
def ux:aK:=⟨[.val bB,.val kE,.val (.slice aL),.val .str,.val tI],[.val .bool],fun x=>lV x.1 x.2.1 x.2.2.1 x.2.2.2.1 x.2.2.2.2.1⟩
noncomputable def Gx:Cx:=⟨tpr,[(14,Jo),(16,Ct),(17,LG),(23,HL),(25,Ka),(26,pK),(27,Du)]⟩
theorem FB:aQ Gx [] none Tryz.f8 ux:=by intro x;kernel_rfl
theorem Gz:aM tpr 8 ux:=aI FB (.cons ab9 acw (.cons UM UY (.cons adS aer (.cons ZG Zq (.cons abY acV (.cons I8 Jy (.cons Wb VJ (.nil _)))))))) aJ Tryz.func8
end Go.Proofs.SeatS
end
