/-
  Each function that the law reaches is as its plain model says, a part. No condition.
-/
import Derived.Test.YtakjkcibbeeekaaGreatDoorYo
import Derived.Test.YtakjkcibbeeekaaGreatDoorYh
import Derived.Test.YtakjkcibbeeekaaGreatDoorYd
import Derived.Test.YtakjkcibbeeekaaGreatDoorProg
import Derived.Shelf.LaysM
import Derived.Shelf.Strings.SlTrimAscii
import Derived.Shelf.Small.Strs
import Derived.Shelf.Strconv.Itoa3
import Derived.Shelf.Strings.Repeat
import Derived.Shelf.Strings.Search1
import Derived.Test.YtakjkcibbeeekaaGreatDoorYe
import Derived.Shelf.SlIter.Collect
import Derived.Shelf.SlIter.Keys
import Derived.WalkKit
import Derived.LoopN
import Derived.Test.YtakjkcibbeeekaaGreatDoorYk
import Derived.StillTailTactics
import Derived.Shelf.SlIterI.Sorted
set_option linter.all false
namespace Go.Proofs
open Go.Shelf
def Tryz.Zp:Go.Shelf.Ren:=⟨fun | 217=>206 | 266=>244 | n=>n,fun | 9=>9 | 5=>5 | 3=>3 | n=>n,fun | n=>n⟩
theorem Tryz.ae9:Go.Proofs.Lays.n217 Tryz.prog Tryz.Zp:={
 mixed:=by kernel_rfl
 f217:=Tryz.func206.trans (congrArg some (by kernel_rfl))
 f266:=Tryz.func244.trans (congrArg some (by kernel_rfl))
 t3:=Tryz.underlying3
 a3:=Tryz.isAgg3
 z3:=Tryz.sizeOf3
 v3:=Tryz.zeroValue3
 t5:=Tryz.underlying5
 a5:=Tryz.isAgg5
 z5:=Tryz.sizeOf5
 v5:=Tryz.zeroValue5
 t9:=Tryz.underlying9
 a9:=Tryz.isAgg9
 z9:=Tryz.sizeOf9
 v9:=Tryz.zeroValue9 }
end Go.Proofs
namespace Go.Proofs
open Go.Shelf
def Tryz.Zo:Go.Shelf.Ren:=⟨fun | 160=>59 | 232=>109 | 231=>108 | 227=>110 | 234=>112 | 233=>111 | 236=>114 | 235=>113 | 228=>164 | 271=>167 | 151=>166 | 197=>165 | 120=>205 | 152=>204 | 260=>203 | 137=>242 | 119=>243 | 224=>208 | 225=>207 | 217=>206 | 266=>244 | n=>n,fun | 9=>9 | 4=>4 | 3=>3 | 5=>5 | 117=>222 | 116=>221 | 0=>0 | 124=>225 | 21=>21 | 105=>276 | 46=>233 | 119=>334 | 139=>337 | 138=>336 | n=>n,fun | 3=>1 | 4=>2 | n=>n⟩
theorem Tryz.ae8:Go.Proofs.Lays.n160 Tryz.prog Tryz.Zo:={
 mixed:=by kernel_rfl
 f119:=Tryz.func243.trans (congrArg some (by kernel_rfl))
 f120:=Tryz.func205.trans (congrArg some (by kernel_rfl))
 f137:=Tryz.func242.trans (congrArg some (by kernel_rfl))
 f151:=Tryz.func166.trans (congrArg some (by kernel_rfl))
 f152:=Tryz.func204.trans (congrArg some (by kernel_rfl))
 f160:=Tryz.func59.trans (congrArg some (by kernel_rfl))
 f197:=Tryz.func165.trans (congrArg some (by kernel_rfl))
 f217:=Tryz.func206.trans (congrArg some (by kernel_rfl))
 f224:=Tryz.func208.trans (congrArg some (by kernel_rfl))
 f225:=Tryz.func207.trans (congrArg some (by kernel_rfl))
 f227:=Tryz.func110.trans (congrArg some (by kernel_rfl))
 f228:=Tryz.func164.trans (congrArg some (by kernel_rfl))
 f231:=Tryz.func108.trans (congrArg some (by kernel_rfl))
 f232:=Tryz.func109.trans (congrArg some (by kernel_rfl))
 f233:=Tryz.func111.trans (congrArg some (by kernel_rfl))
 f234:=Tryz.func112.trans (congrArg some (by kernel_rfl))
 f235:=Tryz.func113.trans (congrArg some (by kernel_rfl))
 f236:=Tryz.func114.trans (congrArg some (by kernel_rfl))
 f260:=Tryz.func203.trans (congrArg some (by kernel_rfl))
 f266:=Tryz.func244.trans (congrArg some (by kernel_rfl))
 f271:=Tryz.func167.trans (congrArg some (by kernel_rfl))
 t0:=Tryz.underlying0
 a0:=Tryz.isAgg0
 z0:=Tryz.sizeOf0
 v0:=Tryz.zeroValue0
 t3:=Tryz.underlying3
 a3:=Tryz.isAgg3
 z3:=Tryz.sizeOf3
 v3:=Tryz.zeroValue3
 t4:=Tryz.underlying4
 a4:=Tryz.isAgg4
 z4:=Tryz.sizeOf4
 v4:=Tryz.zeroValue4
 t5:=Tryz.underlying5
 a5:=Tryz.isAgg5
 z5:=Tryz.sizeOf5
 v5:=Tryz.zeroValue5
 t9:=Tryz.underlying9
 a9:=Tryz.isAgg9
 z9:=Tryz.sizeOf9
 v9:=Tryz.zeroValue9
 t21:=Tryz.underlying21
 a21:=Tryz.isAgg21
 z21:=Tryz.sizeOf21
 v21:=Tryz.zeroValue21
 t46:=Tryz.underlying233
 a46:=Tryz.isAgg233
 z46:=Tryz.sizeOf233
 v46:=Tryz.zeroValue233
 t105:=Tryz.underlying276
 a105:=Tryz.isAgg276
 z105:=Tryz.sizeOf276
 v105:=Tryz.zeroValue276
 t116:=Tryz.underlying221
 a116:=Tryz.isAgg221
 z116:=Tryz.sizeOf221
 t117:=Tryz.underlying222
 a117:=Tryz.isAgg222
 z117:=Tryz.sizeOf222
 v117:=Tryz.zeroValue222
 t119:=Tryz.underlying334
 a119:=Tryz.isAgg334
 z119:=Tryz.sizeOf334
 t124:=Tryz.underlying225
 a124:=Tryz.isAgg225
 z124:=Tryz.sizeOf225
 v124:=Tryz.zeroValue225
 t138:=Tryz.underlying336
 a138:=Tryz.isAgg336
 z138:=Tryz.sizeOf336
 v138:=Tryz.zeroValue336
 t139:=Tryz.underlying337
 a139:=Tryz.isAgg337
 z139:=Tryz.sizeOf337
 v139:=Tryz.zeroValue337
 g3:=by kernel_rfl
 g4:=by kernel_rfl }
def Tryz.Zn:Go.Shelf.Ren:=⟨fun | 106=>81 | 213=>141 | 265=>186 | n=>n,fun | 9=>9 | 3=>3 | n=>n,fun | n=>n⟩
theorem Tryz.Z3:Go.Proofs.Lays.n106 Tryz.prog Tryz.Zn:={
 mixed:=by kernel_rfl
 f106:=Tryz.func81.trans (congrArg some (by kernel_rfl))
 f213:=Tryz.func141.trans (congrArg some (by kernel_rfl))
 f265:=Tryz.func186.trans (congrArg some (by kernel_rfl))
 t3:=Tryz.underlying3
 a3:=Tryz.isAgg3
 z3:=Tryz.sizeOf3
 v3:=Tryz.zeroValue3
 t9:=Tryz.underlying9
 a9:=Tryz.isAgg9
 z9:=Tryz.sizeOf9
 v9:=Tryz.zeroValue9 }
def Tryz.Ym:Go.Shelf.Ren:=⟨fun | 171=>72 | 243=>121 | 246=>171 | 283=>210 | 284=>211 | 285=>212 | 286=>213 | 129=>230 | 317=>246 | 318=>247 | 319=>248 | 320=>249 | 337=>259 | 338=>260 | n=>n,fun | 3=>3 | 9=>9 | 2=>2 | 4=>4 | 171=>304 | 0=>0 | 53=>228 | 37=>238 | 5=>5 | 173=>307 | 212=>341 | 51=>229 | 20=>20 | 213=>342 | 46=>233 | 232=>355 | 233=>356 | n=>n,fun | 17=>3 | 18=>4 | 19=>5 | n=>n⟩
theorem Tryz.adQ:Go.Proofs.LaysM.n171 Tryz.prog Tryz.Ym:={
 mixed:=by kernel_rfl
 f129:=Tryz.func230.trans (congrArg some (by kernel_rfl))
 f171:=Tryz.func72.trans (congrArg some (by kernel_rfl))
 f243:=Tryz.func121.trans (congrArg some (by kernel_rfl))
 f246:=Tryz.func171.trans (congrArg some (by kernel_rfl))
 f283:=Tryz.func210.trans (congrArg some (by kernel_rfl))
 f284:=Tryz.func211.trans (congrArg some (by kernel_rfl))
 f285:=Tryz.func212.trans (congrArg some (by kernel_rfl))
 f286:=Tryz.func213.trans (congrArg some (by kernel_rfl))
 f317:=Tryz.func246.trans (congrArg some (by kernel_rfl))
 f318:=Tryz.func247.trans (congrArg some (by kernel_rfl))
 f319:=Tryz.func248.trans (congrArg some (by kernel_rfl))
 f320:=Tryz.func249.trans (congrArg some (by kernel_rfl))
 f337:=Tryz.func259.trans (congrArg some (by kernel_rfl))
 f338:=Tryz.func260.trans (congrArg some (by kernel_rfl))
 t0:=Tryz.underlying0
 a0:=Tryz.isAgg0
 z0:=Tryz.sizeOf0
 v0:=Tryz.zeroValue0
 t2:=Tryz.underlying2
 a2:=Tryz.isAgg2
 z2:=Tryz.sizeOf2
 v2:=Tryz.zeroValue2
 t3:=Tryz.underlying3
 a3:=Tryz.isAgg3
 z3:=Tryz.sizeOf3
 v3:=Tryz.zeroValue3
 t4:=Tryz.underlying4
 a4:=Tryz.isAgg4
 z4:=Tryz.sizeOf4
 v4:=Tryz.zeroValue4
 t5:=Tryz.underlying5
 a5:=Tryz.isAgg5
 z5:=Tryz.sizeOf5
 v5:=Tryz.zeroValue5
 t9:=Tryz.underlying9
 a9:=Tryz.isAgg9
 z9:=Tryz.sizeOf9
 v9:=Tryz.zeroValue9
 t20:=Tryz.underlying20
 a20:=Tryz.isAgg20
 z20:=Tryz.sizeOf20
 v20:=Tryz.zeroValue20
 t37:=Tryz.underlying238
 a37:=Tryz.isAgg238
 z37:=Tryz.sizeOf238
 v37:=Tryz.zeroValue238
 t46:=Tryz.underlying233
 a46:=Tryz.isAgg233
 z46:=Tryz.sizeOf233
 v46:=Tryz.zeroValue233
 t51:=Tryz.underlying229
 a51:=Tryz.isAgg229
 z51:=Tryz.sizeOf229
 v51:=Tryz.zeroValue229
 t53:=Tryz.underlying228
 a53:=Tryz.isAgg228
 z53:=Tryz.sizeOf228
 v53:=Tryz.zeroValue228
 t171:=Tryz.underlying304
 a171:=Tryz.isAgg304
 z171:=Tryz.sizeOf304
 v171:=Tryz.zeroValue304
 t173:=Tryz.underlying307
 a173:=Tryz.isAgg307
 z173:=Tryz.sizeOf307
 v173:=Tryz.zeroValue307
 t212:=Tryz.underlying341
 a212:=Tryz.isAgg341
 z212:=Tryz.sizeOf341
 v212:=Tryz.zeroValue341
 t213:=Tryz.underlying342
 a213:=Tryz.isAgg342
 z213:=Tryz.sizeOf342
 t232:=Tryz.underlying355
 a232:=Tryz.isAgg355
 z232:=Tryz.sizeOf355
 v232:=Tryz.zeroValue355
 t233:=Tryz.underlying356
 a233:=Tryz.isAgg356
 z233:=Tryz.sizeOf356
 v233:=Tryz.zeroValue356
 g17:=by kernel_rfl
 g18:=by kernel_rfl
 g19:=by kernel_rfl
 i0:=by kernel_rfl
 i2:=by kernel_rfl
 i3:=by kernel_rfl
 i4:=by kernel_rfl
 i5:=by kernel_rfl
 i9:=by kernel_rfl
 i20:=by kernel_rfl
 i37:=by kernel_rfl
 i46:=by kernel_rfl
 i51:=by kernel_rfl
 i53:=by kernel_rfl
 i171:=by kernel_rfl
 i173:=by kernel_rfl
 i212:=by kernel_rfl
 i232:=by kernel_rfl
 i233:=by kernel_rfl
 m17:=by kernel_rfl
 m18:=by kernel_rfl
 m19:=by kernel_rfl }
def Tryz.QF:Go.Shelf.Ren:=⟨fun | 105=>74 | 212=>128 | 99=>129 | 165=>130 | 166=>131 | 170=>132 | 169=>133 | 263=>178 | 264=>179 | 206=>169 | 240=>180 | 241=>181 | 276=>216 | 277=>217 | n=>n,fun | 9=>9 | 3=>3 | 4=>4 | 20=>20 | 0=>0 | 46=>233 | 109=>234 | 5=>5 | 72=>240 | 76=>243 | 51=>229 | 146=>282 | 53=>228 | 148=>284 | 70=>237 | 37=>238 | 75=>242 | 127=>286 | 164=>311 | 80=>245 | n=>n,fun | n=>n⟩
theorem Tryz.ae7:Go.Proofs.Lays.n105 Tryz.prog Tryz.QF:={
 mixed:=by kernel_rfl
 f99:=Tryz.func129.trans (congrArg some (by kernel_rfl))
 f105:=Tryz.func74.trans (congrArg some (by kernel_rfl))
 f165:=Tryz.func130.trans (congrArg some (by kernel_rfl))
 f166:=Tryz.func131.trans (congrArg some (by kernel_rfl))
 f169:=Tryz.func133.trans (congrArg some (by kernel_rfl))
 f170:=Tryz.func132.trans (congrArg some (by kernel_rfl))
 f206:=Tryz.func169.trans (congrArg some (by kernel_rfl))
 f212:=Tryz.func128.trans (congrArg some (by kernel_rfl))
 f240:=Tryz.func180.trans (congrArg some (by kernel_rfl))
 f241:=Tryz.func181.trans (congrArg some (by kernel_rfl))
 f263:=Tryz.func178.trans (congrArg some (by kernel_rfl))
 f264:=Tryz.func179.trans (congrArg some (by kernel_rfl))
 f276:=Tryz.func216.trans (congrArg some (by kernel_rfl))
 f277:=Tryz.func217.trans (congrArg some (by kernel_rfl))
 t0:=Tryz.underlying0
 a0:=Tryz.isAgg0
 z0:=Tryz.sizeOf0
 v0:=Tryz.zeroValue0
 t3:=Tryz.underlying3
 a3:=Tryz.isAgg3
 z3:=Tryz.sizeOf3
 v3:=Tryz.zeroValue3
 t4:=Tryz.underlying4
 a4:=Tryz.isAgg4
 z4:=Tryz.sizeOf4
 v4:=Tryz.zeroValue4
 t5:=Tryz.underlying5
 a5:=Tryz.isAgg5
 z5:=Tryz.sizeOf5
 v5:=Tryz.zeroValue5
 t9:=Tryz.underlying9
 a9:=Tryz.isAgg9
 z9:=Tryz.sizeOf9
 v9:=Tryz.zeroValue9
 t20:=Tryz.underlying20
 a20:=Tryz.isAgg20
 z20:=Tryz.sizeOf20
 v20:=Tryz.zeroValue20
 t37:=Tryz.underlying238
 a37:=Tryz.isAgg238
 z37:=Tryz.sizeOf238
 v37:=Tryz.zeroValue238
 t46:=Tryz.underlying233
 a46:=Tryz.isAgg233
 z46:=Tryz.sizeOf233
 v46:=Tryz.zeroValue233
 t51:=Tryz.underlying229
 a51:=Tryz.isAgg229
 z51:=Tryz.sizeOf229
 v51:=Tryz.zeroValue229
 t53:=Tryz.underlying228
 a53:=Tryz.isAgg228
 z53:=Tryz.sizeOf228
 v53:=Tryz.zeroValue228
 t70:=Tryz.underlying237
 a70:=Tryz.isAgg237
 z70:=Tryz.sizeOf237
 v70:=Tryz.zeroValue237
 t72:=Tryz.underlying240
 a72:=Tryz.isAgg240
 z72:=Tryz.sizeOf240
 v72:=Tryz.zeroValue240
 t75:=Tryz.underlying242
 a75:=Tryz.isAgg242
 z75:=Tryz.sizeOf242
 v75:=Tryz.zeroValue242
 t76:=Tryz.underlying243
 a76:=Tryz.isAgg243
 z76:=Tryz.sizeOf243
 v76:=Tryz.zeroValue243
 t109:=Tryz.underlying234
 a109:=Tryz.isAgg234
 z109:=Tryz.sizeOf234
 v109:=Tryz.zeroValue234
 t127:=Tryz.underlying286
 a127:=Tryz.isAgg286
 z127:=Tryz.sizeOf286
 v127:=Tryz.zeroValue286
 t146:=Tryz.underlying282
 a146:=Tryz.isAgg282
 z146:=Tryz.sizeOf282
 v146:=Tryz.zeroValue282
 t148:=Tryz.underlying284
 a148:=Tryz.isAgg284
 z148:=Tryz.sizeOf284
 v148:=Tryz.zeroValue284
 t164:=Tryz.underlying311
 a164:=Tryz.isAgg311
 z164:=Tryz.sizeOf311
 v164:=Tryz.zeroValue311 }
end Go.Proofs
namespace Go.Proofs
theorem Tryz.PN:Builder.Extra Tryz.prog Tryz.QF:={
 sizeBuilder:=by kernel_rfl
 liesBuilder:=by kernel_rfl
 t5:=Tryz.underlying5
 a5:=Tryz.isAgg5
 z5:=Tryz.sizeOf5
 v5:=Tryz.zeroValue5
 infoByte:=by kernel_rfl
 cellsByte:=by kernel_rfl
 sizeByte:=by kernel_rfl
 neB5:=by decide }
end Go.Proofs
namespace Go.Proofs.SeatU
open Go.Dn Go.Md Go.Proofs Go.RowKit Go.Shelf Go.Lib
def DA:ay:=⟨[.val .str,.val .str],[.val .str],fun x=>vC x.1 x.2.1⟩
theorem Td:fm Tryz.prog 59:=iG (fn:=Tryz.f59) (by kernel_rfl) rfl (by decide)
theorem Tz:gU Tryz.prog 59 DA:=by
 intro G w ow args x y hG how ha hm
 refine Zg (P:=Tryz.prog) (f:=59) (m:=DA.m) ?_ G w ow args x y hG how ha hm
 intro s c r w hm
 replace hm:vC s c=some (r,()):=hm
 unfold vC at hm
 cases hb:(decide (s.length<=9223372036854775807)&&(decide (c.length<4294967281)&&c.all fun b=>decide (b.toNat<128))) with
 | false=>rw[hb] at hm;cases hm
 | true=>
  rw[hb] at hm
  simp only[cond_true,Option.some.injEq,Prod.mk.injEq,and_true] at hm
  subst hm
  simp only[Bool.and_eq_true,decide_eq_true_eq,List.all_eq_true] at hb
  have:=Any.strings_Trim_laid Tryz.ae8 (by kernel_rfl) (bs s) (bs c) w (by simpa [bs,ByteArray.size] using hb.1) (by simpa [bs,ByteArray.size] using hb.2.1) (fun j b hj=>hb.2.2 b (List.mem_of_getElem? (by simpa [bs] using hj)))
  change Calls Tryz.prog 59 _ _ _ at this
  simpa [bs] using this
def lT:ay:=⟨[.val .str,.val .str],[.val tI],fun x=>strings_Compare x.1 x.2.1⟩
theorem sQ:fm Tryz.prog 81:=iG (fn:=Tryz.f81) (by kernel_rfl) rfl (by decide)
theorem sX:gU Tryz.prog 81 lT:=by
 intro G w ow args x y hG how ha hm
 refine ab5 (P:=Tryz.prog) (f:=81) (t:=tI) (m:=lT.m) ?_ G w ow args x y hG how ha hm
 intro s c r w hm
 replace hm:strings_Compare s c=some (r,()):=hm
 unfold strings_Compare at hm
 obtain rfl:Lib.compareBytes s c=r:=congrArg (fun o=>(Option.getD o (0,())).1) hm
 have:=Any.strings_Compare Tryz.Z3 (bs s) (bs c) w
 refine⟨.int .i64 (Lib.compareBytes s c),fun G=> ?_,this.mono ?_⟩
 ·rfl
 ·rintro e w' ⟨he,rfl⟩
  exact⟨he,Below.refl _ _⟩
theorem aeM (n:Nat) (h:n<100):Lib.decDigits n=XQ n:=by
 unfold XQ
 rw[Lib.decDigits]
 by_cases h1:n<10
 ·simp[h1]
 ·rw[dif_neg h1,Lib.decDigits,dif_pos (by omega),if_neg h1];rfl
def yK:ay:=⟨[.val tI],[.val .str],fun x=>strconv_Itoa x.1⟩
theorem Ix:fm Tryz.prog 72:=iG (fn:=Tryz.f72) (by kernel_rfl) rfl (by decide)
theorem ID:gU Tryz.prog 72 yK:=by
 intro G w ow args x y hG how ha hm
 refine X7 (P:=Tryz.prog) (f:=72) (a:=tI) (t:= .str) (m:=yK.m) (g:=3) (by kernel_rfl) rfl ?_ G w ow args x y hG how ha hm
 intro (n:Int) (r:List UInt8) w htab hm
 replace hm:strconv_Itoa n=some (r,()):=hm
 unfold strconv_Itoa at hm
 have fin: -9223372036854775808<=n->n<=9223372036854775807->Lib.itoa n=r->∃ v,(∀ G:Gh,cF G .str r v)/\Calls Tryz.prog 72 #[LP tI n] w fun e w'=>e= .returned v/\RowKit.Below w.heap.size w w':=by
  intro h0 h1 e
  subst e
  have:=Any.strconv_Itoa Tryz.adQ n h0 h1 w htab
  refine⟨.string (bs (Lib.itoa n)),fun G=>rfl,this.mono ?_⟩
  rintro e w' ⟨he,k,os,rfl⟩
  exact⟨he,Y6 w k os⟩
 cases hb:(decide (0<=n)&&decide (n<100)) with
 | true=>
  rw[hb] at hm
  simp only[cond_true,Option.some.injEq,Prod.mk.injEq,and_true] at hm
  simp only[Bool.and_eq_true,decide_eq_true_eq] at hb
  obtain⟨k,rfl⟩:∃ k:Nat,n=k:=⟨n.toNat,by omega⟩
  refine fin (by omega) (by omega) ?_
  rw[<- hm,Int.toNat_natCast, <- aeM k (by omega)]
  rfl
 | false=>
  rw[hb,cond_false] at hm
  cases hc:(decide (-9223372036854775808<=n)&&decide (n<=9223372036854775807)) with
  | false=>rw[hc] at hm;cases hm
  | true=>
   rw[hc] at hm
   simp only[cond_true,Option.some.injEq,Prod.mk.injEq,and_true] at hm
   simp only[Bool.and_eq_true,decide_eq_true_eq] at hc
   exact fin hc.1 hc.2 hm
def AP:ay:=⟨[.val .str,.val tI],[.val .str],fun x=>strings_Repeat x.1 x.2.1⟩
theorem Qh:fm Tryz.prog 74:=iG (fn:=Tryz.f74) (by kernel_rfl) rfl (by decide)
theorem Qi:gU Tryz.prog 74 AP:=by
 intro G w ow args x y hG how ha hm
 refine QB (P:=Tryz.prog) (f:=74) (a:= .str) (a':=tI) (t:= .str) (m:=AP.m) rfl rfl ?_ G w ow args x y hG how ha hm
 intro (s:List UInt8) (n:Int) (r:List UInt8) w hm
 replace hm:strings_Repeat s n=some (r,()):=hm
 unfold strings_Repeat at hm
 cases hb:(decide (0<=n)&&(decide (n<=9223372036854775807)&&decide (s.length*n.toNat<=140737488355328))) with
 | false=>rw[hb] at hm;cases hm
 | true=>
  rw[hb] at hm
  simp only[cond_true,Option.some.injEq,Prod.mk.injEq,and_true] at hm
  subst hm
  simp only[Bool.and_eq_true,decide_eq_true_eq] at hb
  obtain⟨k,rfl⟩:∃ k:Nat,n=k:=⟨n.toNat,by omega⟩
  have hsz:(bs s).size=s.length:=by simp[bs,ByteArray.size]
  have:=Any.strings_Repeat Tryz.ae7 Tryz.PN (bs s) k w (by omega) (by rw[hsz];simpa using hb.2.2)
  refine⟨.string (bs (Lib.repeatL s k)),fun G=>rfl,this.mono ?_⟩
  rintro e w' ⟨he,hbel⟩
  exact⟨he,hbel⟩
noncomputable def Dq:ay:=⟨[.val .str],[.val tI],fun x=>FW x.1⟩
theorem LH:fm Tryz.prog 124:=iG (fn:=Tryz.f124) (by kernel_rfl) rfl (by decide)
theorem LW:gU Tryz.prog 124 Dq:=A3 Tryz.prog 124 [.val .str] [.val tI]
noncomputable def BX:ay:=⟨[.val .str],[.val .bool],fun x=>FF x.1⟩
theorem Hw:fm Tryz.prog 126:=iG (fn:=Tryz.f126) (by kernel_rfl) rfl (by decide)
theorem HE:gU Tryz.prog 126 BX:=A3 Tryz.prog 126 [.val .str] [.val .bool]
noncomputable def HP:ay:=⟨[.val .str],[.val .bool],fun x=>Mu x.1⟩
theorem Rx:fm Tryz.prog 123:=iG (fn:=Tryz.f123) (by kernel_rfl) rfl (by decide)
theorem RG:gU Tryz.prog 123 HP:=A3 Tryz.prog 123 [.val .str] [.val .bool]
noncomputable def IP:ay:=⟨[.val .str],[.val .bool],fun x=>Nj x.1⟩
theorem Tc:fm Tryz.prog 174:=iG (fn:=Tryz.f174) (by kernel_rfl) rfl (by decide)
theorem Tx:gU Tryz.prog 174 IP:=A3 Tryz.prog 174 [.val .str] [.val .bool]
noncomputable def HQ:ay:=⟨[.val tI,.val tI],[.val .str],fun x=>Mv x.1 x.2.1⟩
theorem Ry:fm Tryz.prog 125:=iG (fn:=Tryz.f125) (by kernel_rfl) rfl (by decide)
theorem RH:gU Tryz.prog 125 HQ:=A3 Tryz.prog 125 [.val tI,.val tI] [.val .str]
def kQ:ay:=⟨[.val .str,.val (.int .u8)],[.val tI],fun x=>iJ x.1 x.2.1⟩
theorem A4:fm Tryz.prog 206:=iG (fn:=Tryz.f206) (by kernel_rfl) rfl (by decide)
theorem A6:gU Tryz.prog 206 kQ:=by
 intro G w ow args x y hG how ha hm
 refine QB (P:=Tryz.prog) (f:=206) (a:= .str) (a':= .int .u8) (t:=tI) (m:=kQ.m) rfl rfl ?_ G w ow args x y hG how ha hm
 intro s c r w hm
 replace hm:iJ s c=some (r,()):=hm
 unfold iJ at hm
 obtain rfl:Lib.indexByte s c.toNat.toUInt8=r:=congrArg (fun o=>(Option.getD o (0,())).1) hm
 have:=Any.stringslite_IndexByte Tryz.ae9 (bs s) c w
 refine⟨.int .i64 (Lib.indexByte s c.toNat.toUInt8),fun G=>rfl,this.mono ?_⟩
 rintro e w' ⟨he,rfl⟩
 exact⟨he,RowKit.Below.refl _ _⟩
end Go.Proofs.SeatU
set_option maxRecDepth 100000
namespace Go.Proofs.SeatS
open Go.Dn Go.Proofs Go.RowKit Go.Maps Go.Sort Go.Shelf
theorem XD (W:World) (a b:Value) (T:TypeId):∀ (j:Nat) (u:Value),([a,b]:List Value)[j]? =some u->(W.alloc (.cells #[a,b] T)).cell? ((⟨W.heap.size,0,none⟩:Addr).add j)=some u:=by
 intro j u hu
 have h:=World.alloc_heap_new W (.cells #[a,b] T)
 match j,hu with
 | 0,hu=>cases hu;show World.cell? _ ⟨W.heap.size,0+0,none⟩=_;unfold World.cell?;simp only[h];rfl
 | 1,hu=>cases hu;show World.cell? _ ⟨W.heap.size,0+1,none⟩=_;unfold World.cell?;simp only[h];rfl
def Ky (f:Func):Code×Code:=match f.body with
 | some (.seq _ (.seq (.seq _ (.block _ (.rangeFunc _ _ a b))) _))=>(a,b)
 | _=>(.skip,.skip)
noncomputable def kH (fn:FuncId) (sv:Value) (Bs D:Nat) (st:LoopState) (pend:Option Code):Loop:=
 { state:=st,pending:=pend,fn,tmps:= #[.slice none 0 0,sv,.pointer (some ⟨Bs,0,none⟩),undef,.slice none 0 0,undef,sv,undef,undef,undef,undef,undef,undef],params:= #[7],assign:=(Ky Tryz.f187).1,body:=(Ky Tryz.f187).2,defers:=D }
set_option maxHeartbeats 1000000 in
theorem aaW (KT:Ub Tryz.prog 107) (n:Nat) (hn:1<=n) (l Bm b nn:Nat) (D0:DataW Unit) (keys:List Two) (J:List Two->World->Prop) (hY:∀ pre x W,J pre W->pre.length<Maps.size D0->YieldAt Fence.wide (n - 1) Tryz.prog l #[kL x] W fun e W'=>e= .returned (.bool true)/\J (pre++[x]) W'/\KeepsWalks W W') (W:World) (hJ:AbidesFrom W.heap.size J) (hm:W.cell? ⟨Bm,0,none⟩=some (.map (some b))) (hown:W.ownsMap Tryz.prog 107 (fun _=>some (.nil,[])) b nn D0) (hnd:keys.Nodup) (hs:∀ p,p∈keys->p.1.length<=9223372036854775807/\p.2.length<=9223372036854775807) (hD:∀ k,has D0 (.string k)=true↔∃ p,p∈keys/\keyOf Tryz.prog 107 (kL p)=some (.string k)) (h0:J [] W): CallsIn Fence.wide n Tryz.prog 146 #[.func (.yield l) #[] #[],.pointer (some ⟨Bm,0,none⟩)] W fun e W'=>(∃ v,e= .returned v)/\∃ xs:List Two,xs.Perm keys/\J xs W':=by
 have mixed:Tryz.prog.follows .mixedOrders=true:=by kernel_rfl
 have tM:=Tryz.underlying102;have aM:=Tryz.isAgg102;have zM:=Tryz.sizeOf102;have vM:=Tryz.zeroValue102
 have tE:=Tryz.underlying107;have aE:=Tryz.isAgg107;have zE:=Tryz.sizeOf107;have vE:=Tryz.zeroValue107
 have t4:=Tryz.underlying4;have a4:=Tryz.isAgg4;have z4:=Tryz.sizeOf4;have v4:=Tryz.zeroValue4
 have t0:=Tryz.underlying0;have a0:=Tryz.isAgg0;have z0:=Tryz.sizeOf0;have v0:=Tryz.zeroValue0
 have uM:=run_underlying tM;have uE:=run_underlying tE;have u4:=run_underlying t4;have u0:=run_underlying t0
 refine callsIn_of_wp Tryz.func146 rfl trivial ?_ rfl
 simp only[Tryz.ntmps146,List.size_toArray,List.length_cons,List.length_nil,Nat.reduceAdd,Nat.reduceSub,Array.replicate_succ,Array.replicate_zero,List.push_toArray,List.append_toArray,List.nil_append,List.cons_append]
 gi_wp2_with (first
  | (gi_at_range;refine wpListIn_range_own _ rfl _ 102 rfl 107 _ (Keyed.of_law KT.law) tM _ b nn _ rfl hown ?_;intro w0 hrg0 hg0 hs0)
  | gi_in)
 go_frame
 gi_loopw [3] (fun _ wr=>∃ (left:Lit->Bool) (cnt:Nat) (ss:List Two),wr.ranges Tryz.prog 107 (fun _=>some (.nil,[])) b W.heap.size nn D0 left cnt/\ss.length+cnt<=Maps.size D0/\Gc Tryz.prog 107 D0 left ss/\J ss wr)
  (fun _ wr=>wr.rangeLeft b W.heap.size)
 case atStart=>
  exact⟨_,_,[],hrg0,by simp,Gc.start _ _ D0,hJ [] W w0 none h0 hg0 (fun r e=>by cases e)⟩
 case round=>
  obtain⟨left,cnt,ss,hrg,hcs,hC,hJs⟩:=hrel
  gi_wp2_with (first
   | (gi_at_next;refine wpListIn_next_ranges _ rfl _ rfl 107 (Keyed.of_law KT.law) (fun _=>some (.nil,[])) (id:Value->Value) (id:Value->Value) (fun key kl hk=>⟨key,rfl⟩) (fun v _ _=>⟨v,rfl⟩) b W.heap.size nn _ _ _ rfl hrg ?_ ?_)
   | gi_in)
  ·-- nothing is left
   intro hc0 hl0
   gi_wp2
   go_end0
   exact⟨⟨_,rfl⟩,ss,hC.perm KT hl0 hnd hs hD,hJs⟩
  ·-- a key has come
   intro x c kl yd yp w2 cnt2 hkey hlk hv1 hv2 hat hrg2 hlt hg2 hs2 hen
   obtain⟨k,rfl⟩:=KT.law.str hkey
   obtain⟨p,hp,hpk⟩:=(hD k).1 (has_true_of_atKey hat)
   obtain rfl:x=kL p:=KT.law.inj hkey hpk
   have hJ2:J ss w2:=hJ ss wr w2 (some W.heap.size) hJs hg2 (fun r e=>by cases e;exact⟨Nat.le_refl _,hrg.iter_walk⟩)
   clear hs2
   obtain⟨W4,hW4⟩:∃ W4,w2.alloc (.cells #[.string (bs p.1),.string (bs p.2)] 107)=W4:=⟨_,rfl⟩
   have hg4:w2.grownBy W4 none:=by rw[<- hW4];exact⟨rfl,rfl,rfl,by simp,fun k hk _=>Below.heap_alloc _ _ k hk⟩
   have hJ4:J ss W4:=hJ ss w2 W4 none hJ2 hg4 (fun r e=>by cases e)
   have hrg4:=hrg2.alloc (.cells #[.string (bs p.1),.string (bs p.2)] 107)
   rw[hW4] at hrg4
   obtain⟨fn,tmps,assign,body,hy,hR⟩:=hY ss p W4 hJ4 (by omega)
   subst hW4
   unfold kL at hen hy ⊢
   gi_wp2
   refine hR.mono ?_
   rintro e W3 ⟨rfl,hJ3,hk3⟩
   gi_wp2
   have hrg3:=hrg4.of_walks hk3
   go_roundw
   case rel=>exact⟨_,cnt2,ss++[p],hrg3,by simp;omega,hC.step hpk hlk hat,hJ3⟩
   case measure=>rw[hrg3.left_eq,hrg.left_eq];exact hlt
structure CG (w0:World) (fn:FuncId) (sv:Value) (Bs l D:Nat) (ss:List Two) (W:World):Prop where
 box:∃ v,W.heap[Bs]? =some (.cells #[v] 185 (0,0))/\W.ownsRow w0.heap.size 107 2 v ss.length (ss.flatMap AT)/\(v= .slice none 0 0↔ss=[])
 L:W.heap[l]? =some (.loop (kH fn sv Bs D .ready none))
 K:W.heap[D]? =some (.deferred (some []))
 below:Below w0.heap.size w0 W
theorem Ip (w0:World) (fn:FuncId) (sv:Value) (Bs l D B:Nat) (hB:w0.heap.size<=B):AbidesFrom B (CG w0 fn sv Bs l D):=fun s W W' row h hg hrow=>by
 have hrow':∀ r,row=some r->∃ o:Obj,W.heap[r]? =some o/\o.isWalk=true:=fun r e=>(hrow r e).2
 obtain⟨v,hv,hr,hn⟩:=h.box
 exact⟨⟨v,(grownBy_keeps hg hrow' hv rfl).trans hv,ownsRow_abides_a hr hg hrow',hn⟩,(grownBy_keeps hg hrow' h.L rfl).trans h.L,(grownBy_keeps hg hrow' h.K rfl).trans h.K,
  h.below.grown hg h.below.size (fun k e=>Nat.le_trans hB (hrow k e).1)⟩
set_option maxHeartbeats 2000000 in
theorem Wr (m:Nat) (w0:World) (fn:FuncId) (sv:Value) (Bs l D:Nat) (hBl:Bs≠l) (hDl:D≠l) (hDB:D≠Bs) (h0B:w0.heap.size<=Bs) (h0l:w0.heap.size<=l) (N:Nat) (hN:N<=maxLen) (hNb:N*32<=140737488355328) (ss:List Two) (x:Two) (W:World) (h:CG w0 fn sv Bs l D ss W) (hlen:ss.length<N): YieldAt Fence.wide m Tryz.prog l #[kL x] W fun e W'=>e= .returned (.bool true)/\CG w0 fn sv Bs l D (ss++[x]) W'/\KeepsWalks W W':=by
 have mixed:Tryz.prog.follows .mixedOrders=true:=by kernel_rfl
 have tL:=Tryz.underlying185;have aL:=Tryz.isAgg185;have zL:=Tryz.sizeOf185;have vL:=Tryz.zeroValue185
 have tE:=Tryz.underlying107;have aE:=Tryz.isAgg107;have zE:=Tryz.sizeOf107;have vE:=Tryz.zeroValue107
 have t0:=Tryz.underlying0;have a0:=Tryz.isAgg0;have z0:=Tryz.sizeOf0;have v0:=Tryz.zeroValue0
 have hne:(185:TypeId)≠107:=by decide
 have uL:=run_underlying tL;have uE:=run_underlying tE;have u0:=run_underlying t0
 obtain⟨W1,hW1⟩:∃ W1,W.alloc (.cells #[.string (bs x.1),.string (bs x.2)] 107)=W1:=⟨_,rfl⟩
 have hg1:W.grownBy W1 none:=by rw[<- hW1];exact World.grownBy_alloc W _ none
 have hk1:KeepsWalks W W1:=by rw[<- hW1];exact KeepsWalks.alloc _ _
 have h1:=Ip w0 fn sv Bs l D w0.heap.size (Nat.le_refl _) ss W W1 none h hg1 (fun r e=>by cases e)
 have hA1:W1.heap[W.heap.size]? =some (.cells #[.string (bs x.1),.string (bs x.2)] 107 (0,0)):=by rw[<- hW1];exact World.alloc_heap_new W _
 obtain⟨v,hv,hrow,_⟩:=h1.box
 have hlW:l<W.heap.size:=(Array.getElem?_eq_some_iff.1 h.L).1
 refine⟨fn, #[.slice none 0 0,sv,.pointer (some ⟨Bs,0,none⟩),undef,.slice none 0 0,undef,sv,kL x,undef,undef,undef,undef,undef],(Ky Tryz.f187).1,(Ky Tryz.f187).2,by simpa [kH] using run_yield (P:=Tryz.prog) (args:= #[kL x]) h.L rfl,roundIn_of_wpIn trivial ?_⟩
 have hl:l<W1.heap.size:=(Array.getElem?_eq_some_iff.1 h1.L).1
 have hbr:=run_beginRound (P:=Tryz.prog) h1.L rfl
 obtain⟨W2,hW2⟩:∃ W2,W1.putObj l (.loop { kH fn sv Bs D .ready none with state:= .busy })=W2:=⟨_,rfl⟩
 rw[hW2] at hbr
 have hg2:W1.grownBy W2 (some l):=by rw[<- hW2];exact grownBy_putObj_a _ _ _
 have hk2:KeepsWalks W1 W2:=by rw[<- hW2];exact KeepsWalks.putObj _ h1.L rfl
 have hv2:W2.heap[Bs]? =some (.cells #[v] 185 (0,0)):=by rw[<- hW2];exact (World.putObj_heap_other hBl).trans hv
 have hK2:W2.heap[D]? =some (.deferred (some [])):=by rw[<- hW2];exact (World.putObj_heap_other hDl).trans h1.K
 have hL2:W2.heap[l]? =some (.loop { kH fn sv Bs D .ready none with state:= .busy }):=by rw[<- hW2];exact World.putObj_heap_same hl
 have hA2:W2.heap[W.heap.size]? =some (.cells #[.string (bs x.1),.string (bs x.2)] 107 (0,0)):=by rw[<- hW2];exact (World.putObj_heap_other (by omega)).trans hA1
 have hrow2:W2.ownsRow w0.heap.size 107 2 v ss.length (ss.flatMap AT):=hrow.kept hg2 (ownsRow_ne_a hrow h1.L (fun cur e=>by first | cases e | exact hne (Obj.cells.inj e).2.1))
 have hb2:Below w0.heap.size w0 W2:=h1.below.grown hg2 h1.below.size (fun k e=>by cases e;exact h0l)
 obtain⟨hc2,hf2⟩:=cell_of_box_a hv2
 have hca0:W2.cell? ⟨W.heap.size,0,none⟩=some (.string (bs x.1)):=by simp[World.cell?,hA2]
 have hca1:W2.cell? ⟨W.heap.size,1,none⟩=some (.string (bs x.2)):=by simp[World.cell?,hA2]
 have hBlt:Bs<W2.heap.size:=(Array.getElem?_eq_some_iff.1 hv2).1
 have hl2:l<W2.heap.size:=(Array.getElem?_eq_some_iff.1 hL2).1
 have hDlt:D<W2.heap.size:=(Array.getElem?_eq_some_iff.1 hK2).1
 have ne_of:∀ {j:Nat} {o:Obj},W2.heap[j]? =some o->(∀ cur,o≠ .cells cur 107 (0,0))->some j≠v.ownBlock:=fun hj hno=>by
  rcases ownsRow_ne_a hrow2 hj hno with e | e
  ·rw[e];simp
  ·exact fun e'=>e e'.symm
 clear hW2
 unfold Ky Tryz.f187
 dsimp only
 unfold kL at*
 gi_wp2_with (first
  | (gi_at_builtin;refine wpListIn_append_own _ rfl _ _ 185 rfl w0.heap.size 107 Tryz.t107 (.agg #[.string ⟨#[]⟩,.string ⟨#[]⟩]) 2 32 tL (by kernel_rfl) (by kernel_rfl) (by kernel_rfl) (by kernel_rfl) rfl (by decide) _ _ _ rfl (hrow2.alloc _) ⟨W2.heap.size,0,none⟩ 1 1 [.string (bs x.1),.string (bs x.2)] rfl rfl (XD _ _ _ _) (by simp[Value.oneCell']) (by omega) (by omega) (by have:=hb2.size;simp;omega) ?_;intro v' w3 hown' hg3 hnil3
     have hv3:w3.heap[Bs]? =some (.cells #[v] 185 (0,0)):=(hg3.block Bs (by simp;omega) (ne_of hv2 (fun cur e=>by first | cases e | exact hne (Obj.cells.inj e).2.1))).trans ((Below.heap_alloc _ _ Bs hBlt).trans hv2)
     obtain⟨hc3,hf3⟩:=cell_of_box_a hv3
     obtain⟨g',cap',cur',rfl,hbase',hgb',hr1,hr2,hr3,hr4⟩:∃ g' cap' cur',v'= .slice (some ⟨g',0,none⟩) (ss.length+1) cap'/\w0.heap.size<=g'/\w3.heap[g']? =some (.cells cur' 107 (0,0))/\ss.length+1<=cap'/\cap'<=maxLen/\cur'.size=cap'*2/\cur'.toList.take ((ss.length+1)*2)=ss.flatMap AT++[.string (bs x.1),.string (bs x.2)]:=by
      rcases hown'.2 with ⟨_,h0⟩ | h'
      ·exact absurd h0 (by omega)
      ·exact h'
     go_frame)
  | gi_round_op_a)
 have hg3':(W2.alloc (.cells #[.string (bs x.1),.string (bs x.2)] 107)).grownBy w3 v.ownBlock:=hg3
 have hL3:w3.heap[l]? =some (.loop { kH fn sv Bs D .ready none with state:= .busy }):=(hg3'.block l (by simp;omega) (ne_of hL2 (fun cur e=>by first | cases e | exact hne (Obj.cells.inj e).2.1))).trans ((Below.heap_alloc _ _ l hl2).trans hL2)
 have hK3:w3.heap[D]? =some (.deferred (some [])):=(hg3'.block D (by simp;omega) (ne_of hK2 (fun cur e=>by first | cases e | exact hne (Obj.cells.inj e).2.1))).trans ((Below.heap_alloc _ _ D hDlt).trans hK2)
 obtain⟨w4,hw4⟩:∃ w4,w3.setCell ⟨Bs,0,none⟩ (.slice (some ⟨g',0,none⟩) (ss.length+1) cap')=w4:=⟨_,rfl⟩
 rw[hw4]
 have hg4:w3.grownBy w4 (some Bs):=by rw[<- hw4];exact grownBy_setCell0_a _ _ _
 have hv4:w4.heap[Bs]? =some (.cells #[.slice (some ⟨g',0,none⟩) (ss.length+1) cap'] 185 (0,0)):=by rw[<- hw4];exact heap_setCell_box_a _ hv3
 have hL4:w4.heap[l]? =some (.loop { kH fn sv Bs D .ready none with state:= .busy }):=(hg4.block l (Array.getElem?_eq_some_iff.1 hL3).1 (fun e=>hBl (by cases e;rfl))).trans hL3
 have hK4:w4.heap[D]? =some (.deferred (some [])):=(hg4.block D (Array.getElem?_eq_some_iff.1 hK3).1 (fun e=>hDB (by cases e;rfl))).trans hK3
 have hrow4:=hown'.kept hg4 (ownsRow_ne_a hown' hv3 (fun cur e=>by first | cases e | exact hne (Obj.cells.inj e).2.1))
 have hl4:l<w4.heap.size:=(Array.getElem?_eq_some_iff.1 hL4).1
 have hb3:Below w0.heap.size w0 w3:=(hb2.alloc hb2.size _).grown hg3' (by have:=hb2.size;simp;omega) (fun k e=>(hrow2.lt k e).1)
 have hb4:Below w0.heap.size w0 w4:=hb3.grown hg4 hb3.size (fun k e=>by cases e;exact h0B)
 have hk4:KeepsWalks W w4:=(((hk1.trans hk2).trans (KeepsWalks.alloc _ _)).trans (KeepsWalks.of_grownBy hg3' (ownsRow_not_walk_a (hrow2.alloc _)))).trans (by rw[<- hw4];exact KeepsWalks.setCell _ _ _)
 clear hw4
 refine⟨_,_,run_endRound none hL4,rfl,⟨⟨_,(World.putObj_heap_other hBl).trans hv4, ?_,by simp⟩,World.putObj_heap_same hl4,(World.putObj_heap_other hDl).trans hK4,hb4.grown (grownBy_putObj_a _ _ _) hb4.size (fun k e=>by cases e;exact h0l)⟩,hk4.trans (KeepsWalks.putObj _ hL4 rfl)⟩
 have:=hrow4.kept (grownBy_putObj_a w4 l (.loop { { kH fn sv Bs D .ready none with state:= .busy } with state:=if (none:Option Code).isNone then .ready else .done,pending:=none })) (ownsRow_ne_a hrow4 hL4 (fun cur e=>by first | cases e | exact hne (Obj.cells.inj e).2.1))
 simpa [AT] using this
set_option maxHeartbeats 2000000 in
theorem Iq (n:Nat) (hn:2<=n) (g:Nat) (lb:Array Value) (eg:∀ args w,(callFunc g args).run Tryz.prog w= .ok (.enter g args) w) (S:List Two->Prop) (N:Nat) (hN:N<=maxLen) (hNb:N*32<=140737488355328) (w:World) (hseq:SeqGives Fence.wide (n - 1) Tryz.prog g lb kL S N w): CallsIn Fence.wide n Tryz.prog 187 #[.slice none 0 0,.func (.func g) #[] lb] w fun e w'=>∃ (v:Value) (ss:List Two),e= .returned v/\S ss/\w'.ownsRow w.heap.size 107 2 v ss.length (ss.flatMap AT)/\Below w.heap.size w w':=by
 have h1:1<=n:=by omega
 have mixed:Tryz.prog.follows .mixedOrders=true:=by kernel_rfl
 have tL:=Tryz.underlying185;have aL:=Tryz.isAgg185;have zL:=Tryz.sizeOf185;have vL:=Tryz.zeroValue185
 have tE:=Tryz.underlying107;have aE:=Tryz.isAgg107;have zE:=Tryz.sizeOf107;have vE:=Tryz.zeroValue107
 have tQ:=Tryz.underlying188;have aQ:=Tryz.isAgg188;have zQ:=Tryz.sizeOf188;have vQ:=Tryz.zeroValue188
 have t0:=Tryz.underlying0;have a0:=Tryz.isAgg0;have z0:=Tryz.sizeOf0;have v0:=Tryz.zeroValue0
 have hne:(185:TypeId)≠107:=by decide
 have uL:=run_underlying tL;have uE:=run_underlying tE;have u0:=run_underlying t0;have uQ:=run_underlying tQ
 refine callsIn_of_wp_marks Tryz.func187 rfl trivial ?_ rfl
 simp only[Tryz.ntmps187,List.size_toArray,List.length_cons,List.length_nil,Nat.reduceAdd,Nat.reduceSub,Array.replicate_succ,Array.replicate_zero,List.push_toArray,List.append_toArray,List.nil_append,List.cons_append]
 gi_wp2
 refine wpIn_rangeFunc ?_
 intro fn hfn
 obtain⟨W0,hW0⟩:∃ W0,w.alloc (.cells #[.slice none 0 0] 185)=W0:=⟨_,rfl⟩
 have hs0:W0.heap.size=w.heap.size+1:=by rw[<- hW0];simp
 have hv0:W0.heap[w.heap.size]? =some (.cells #[.slice none 0 0] 185 (0,0)):=by rw[<- hW0];exact World.alloc_heap_new w _
 have hb0:Below w.heap.size w W0:=by rw[<- hW0];exact (Below.refl _ w).alloc (Nat.le_refl _) _
 rw[hW0]
 obtain⟨W1,hW1⟩:∃ W1,(W0.alloc (.deferred (some []))).alloc (.loop (kH fn (.func (.func g) #[] lb) w.heap.size W0.heap.size .ready none))=W1:=⟨_,rfl⟩
 have hold:∀ k,k<W0.heap.size->W1.heap[k]? =W0.heap[k]? :=fun k hk=>by
  rw[<- hW1];exact (Below.heap_alloc _ _ k (by simp;omega)).trans (Below.heap_alloc _ _ k hk)
 have hb1:Below w.heap.size w W1:=by rw[<- hW1];exact (hb0.alloc hb0.size _).alloc (by have:=hb0.size;simp;omega) _
 have hs1:W1.heap.size=W0.heap.size+2:=by rw[<- hW1];simp
 have hM:CG w fn (.func (.func g) #[] lb) w.heap.size (W0.heap.size+1) W0.heap.size [] W1:=
  ⟨⟨_,(hold w.heap.size (by omega)).trans hv0,⟨rfl,.inl ⟨rfl,rfl⟩⟩,by simp⟩,
   by rw[<- hW1];have:=World.alloc_heap_new (W0.alloc (.deferred (some []))) (.loop (kH fn (.func (.func g) #[] lb) w.heap.size W0.heap.size .ready none));rwa [World.size_alloc] at this,
   by rw[<- hW1];exact (Below.heap_alloc _ _ _ (by simp)).trans (World.alloc_heap_new W0 _),hb1⟩
 refine⟨W0.heap.size+1,[{ target:= .collected W0.heap.size,args:= #[] }],W1,{ target:= .fn (.func g) lb,args:= #[.func (.yield (W0.heap.size+1)) #[] #[]] },W1,g,
  #[.func (.yield (W0.heap.size+1)) #[] #[]]++lb,W1, ?_, ?_, ?_, ?_,fun _=>h1, ?_⟩
 ·rw[<- hW1];exact run_enterLoop_outer _ _ _ _ _
 ·simp[resolve,go_sem]
 ·intro f' hf';trivial
 ·simp[invoke,go_sem,eg]
 ·refine (hseq (W0.heap.size+1) (CG w fn (.func (.func g) #[] lb) w.heap.size (W0.heap.size+1) W0.heap.size) W1 hb1 (Ip _ _ _ _ _ _ _ hb1.size)
   (fun pre x W hJ hl=>Wr (n - 1 - 1) w fn _ w.heap.size (W0.heap.size+1) W0.heap.size (by omega) (by omega) (by omega) (Nat.le_refl _) (by omega) N hN hNb pre x W hJ hl) hM).mono ?_
  rintro e W2 ⟨⟨v0,rfl⟩,ss,hS,h2⟩
  obtain⟨v,hv,hrow,hnil⟩:=h2.box
  have hend:=run_endLoop (P:=Tryz.prog) h2.L (by simp[kH])
  obtain⟨W3,hW3⟩:∃ W3,W2.putObj (W0.heap.size+1) (.loop { kH fn (.func (.func g) #[] lb) w.heap.size W0.heap.size .ready none with state:= .exhausted })=W3:=⟨_,rfl⟩
  rw[hW3] at hend
  have hg3:W2.grownBy W3 (some (W0.heap.size+1)):=by rw[<- hW3];exact grownBy_putObj_a _ _ _
  have hv3:W3.heap[w.heap.size]? =some (.cells #[v] 185 (0,0)):=by rw[<- hW3];exact (World.putObj_heap_other (by omega)).trans hv
  have hK3:W3.heap[W0.heap.size]? =some (.deferred (some [])):=by rw[<- hW3];exact (World.putObj_heap_other (by omega)).trans h2.K
  have hrow3:=hrow.kept hg3 (ownsRow_ne_a hrow h2.L (fun cur e=>by first | cases e | exact hne (Obj.cells.inj e).2.1))
  have hb3:Below w.heap.size w W3:=h2.below.grown hg3 h2.below.size (fun k e=>by cases e;omega)
  obtain⟨hc3,hf3⟩:=cell_of_box_a hv3
  clear hW3
  refine⟨none,W3,hend, ?_⟩
  gi_wp2
  rw[<- hs0]
  refine⟨by simp,.inl ⟨_,_,rfl,run_takeDeferred hK3, ?_⟩⟩
  exact⟨_,results_tmp rfl _ _ _,v,ss,rfl,hS,hrow3.kept (grownBy_putObj_a _ _ _) (ownsRow_ne_a hrow3 hK3 (fun cur e=>by first | cases e | exact hne (Obj.cells.inj e).2.1)),hb3.grown (grownBy_putObj_a _ _ _) hb3.size (fun k e=>by cases e;omega)⟩
set_option maxHeartbeats 1000000 in
theorem Wt (n:Nat) (hn:3<=n) (g:Nat) (lb:Array Value) (eg:∀ args w,(callFunc g args).run Tryz.prog w= .ok (.enter g args) w) (S:List Two->Prop) (N:Nat) (hN:N<=maxLen) (hNb:N*32<=140737488355328) (w:World) (hseq:SeqGives Fence.wide (n - 1 - 1) Tryz.prog g lb kL S N w): CallsIn Fence.wide n Tryz.prog 144 #[.func (.func g) #[] lb] w fun e w'=>∃ (v:Value) (ss:List Two),e= .returned v/\S ss/\w'.ownsRow w.heap.size 107 2 v ss.length (ss.flatMap AT)/\Below w.heap.size w w':=by
 have h1:1<=n:=by omega
 have e11:∀ args w,(callFunc 187 args).run Tryz.prog w= .ok (.enter 187 args) w:=enters_of Tryz.func187 (by kernel_rfl) rfl
 have mixed:Tryz.prog.follows .mixedOrders=true:=by kernel_rfl
 have tL:=Tryz.underlying185;have aL:=Tryz.isAgg185;have zL:=Tryz.sizeOf185;have vL:=Tryz.zeroValue185
 have tQ:=Tryz.underlying188;have aQ:=Tryz.isAgg188;have zQ:=Tryz.sizeOf188;have vQ:=Tryz.zeroValue188
 have uL:=run_underlying tL;have uQ:=run_underlying tQ
 refine callsIn_of_wp Tryz.func144 rfl trivial ?_ rfl
 simp only[Tryz.ntmps144,List.size_toArray,List.length_cons,List.length_nil,Nat.reduceAdd,Nat.reduceSub,Array.replicate_succ,Array.replicate_zero,List.push_toArray,List.append_toArray,List.nil_append,List.cons_append]
 gi_wp2_with (gi_at_fn 187;refine (Iq (n - 1) (by omega) g lb eg S N hN hNb _ hseq).mono ?_;rintro e w' ⟨v,ss,rfl,hS,hrow,hb⟩)
 all_goals (try (refine⟨trivial,(Iq (n - 1) (by omega) g lb eg S N hN hNb _ hseq).mono ?_⟩;rintro e w' ⟨v,ss,rfl,hS,hrow,hb⟩))
 all_goals gi_wp2
 go_ret
 exact⟨v,ss,rfl,hS,hrow,hb⟩
theorem Zk (mb:Option Nat) (w:World):Calls Tryz.prog 84 #[.map mb] w fun e w'=>e= .returned (.func (.func 146) #[] #[.pointer (some ⟨w.heap.size,0,none⟩)])/\w'=w.alloc (.cells #[.map mb] 102):=by
 have mixed:Tryz.prog.follows .mixedOrders=true:=by kernel_rfl
 have tM:=Tryz.underlying102;have aM:=Tryz.isAgg102;have zM:=Tryz.sizeOf102;have vM:=Tryz.zeroValue102
 have tQ:=Tryz.underlying188;have aQ:=Tryz.isAgg188;have zQ:=Tryz.sizeOf188;have vQ:=Tryz.zeroValue188
 go_enter Tryz.func84,Tryz.ntmps84
 go_wp2
 go_ret
 exact⟨rfl,rfl⟩
set_option maxHeartbeats 2000000 in
theorem RV (KT:Ub Tryz.prog 107) {cf:Two->Two->Int} (hO:SWO (ltOf cf)) (hsort:gU Tryz.prog 145 (KC 107 FU 85 (fun _=>true) cf)):Ge Tryz.prog 83 (.srt2 146 107 107 85 cf):=by
 intro G vt l Bm b clock es w hG hT hBm hcell hb hes hborn hpw hok
 have hkl:=Oq cf l
 simp only[GG,Bool.and_eq_true,decide_eq_true_eq] at hok
 obtain⟨hlen,hstr,hnd,hpart⟩:=hok
 have hml:(1000000:Nat)<=maxLen:=by decide
 have hstr':∀ p,p∈l->p.1.1.length<=9223372036854775807/\p.1.2.length<=9223372036854775807:=fun p hp=>by
  have:=List.all_eq_true.1 hstr p hp
  simpa only[Bool.and_eq_true,decide_eq_true_eq] using this
 obtain⟨D0,hown,hsz,hD⟩:=Yz KT hb hes hborn hpw (Nat.le_trans hlen hml) hstr' hnd
 have hD':∀ k,has D0 (.string k)=true↔∃ p,p∈l.map (·.1)/\keyOf Tryz.prog 107 (kL p)=some (.string k):=fun k=>by
  rw[hD k]
  constructor
  ·rintro⟨p,hp,h⟩;exact⟨p.1,List.mem_map.2 ⟨p,hp,rfl⟩,h⟩
  ·rintro⟨q,hq,h⟩;obtain⟨p,hp,rfl⟩:=List.mem_map.1 hq;exact⟨p,hp,h⟩
 have hs':∀ p,p∈l.map (·.1)->p.1.length<=9223372036854775807/\p.2.length<=9223372036854775807:=fun p hp=>by
  obtain⟨q,hq,rfl⟩:=List.mem_map.1 hp;exact hstr' q hq
 have hseq:SeqGives Fence.wide 2 Tryz.prog 146 #[.pointer (some ⟨Bm,0,none⟩)] kL (fun ss=>ss.Perm (l.map (·.1))) (Maps.size D0) w:=fun ll J W hW hJ hY h0=>by
  have hown':W.ownsMap Tryz.prog 107 (fun _=>some (.nil,[])) b l.length D0:=by
   have hbl:=hown.lt
   obtain⟨es,clock,hb,Ft,hs,hD⟩:=hown
   exact⟨es,clock,(hW.block b hbl).trans hb,Ft,hs,hD⟩
  exact aaW KT 2 (by omega) ll Bm b l.length D0 (l.map (·.1)) J hY W hJ ((hW.cell (p:=⟨Bm,0,none⟩) hBm).trans hcell) hown' hnd hs' hD' h0
 have cC:=callsIn_wide.1 (Wt 4 (by omega) 146 #[.pointer (some ⟨Bm,0,none⟩)] (enters_of Tryz.func146 (by kernel_rfl) rfl) _ (Maps.size D0) (by rw[hsz];exact Nat.le_trans hlen hml) (by rw[hsz];omega) w hseq)
 have mixed:Tryz.prog.follows .mixedOrders=true:=by kernel_rfl
 have tL:=Tryz.underlying185;have aL:=Tryz.isAgg185;have zL:=Tryz.sizeOf185;have vL:=Tryz.zeroValue185
 have tQ:=Tryz.underlying188;have aQ:=Tryz.isAgg188;have zQ:=Tryz.sizeOf188;have vQ:=Tryz.zeroValue188
 have uL:=run_underlying tL;have uQ:=run_underlying tQ
 have t0:=Tryz.underlying0;have a0:=Tryz.isAgg0;have z0:=Tryz.sizeOf0;have v0:=Tryz.zeroValue0
 have eC:∀ args w,(callFunc 144 args).run Tryz.prog w= .ok (.enter 144 args) w:=enters_of Tryz.func144 (by kernel_rfl) rfl
 have eF:∀ args w,(callFunc 145 args).run Tryz.prog w= .ok (.enter 145 args) w:=enters_of Tryz.func145 (by kernel_rfl) rfl
 go_enter Tryz.func83,Tryz.ntmps83
 go_wp2_with (go_at_fn 144;refine cC.mono ?_;rintro e w1 ⟨v,ss,rfl,hS,hrow,hb1⟩)
 all_goals
  refine (ac7 hsort hO hG hT hb1 hrow hS hlen hpart).mono ?_
  rintro e w2 ⟨rfl,xs,h1,h2,h3,h4,h5,h6⟩
  go_wp2
 go_ret
 exact⟨v,xs,rfl,h1,h2,h3,h4,h5,h6⟩
end Go.Proofs.SeatS
set_option maxRecDepth 100000
namespace Go.Proofs
open Go.Shelf
def Tryz.KD:Go.Shelf.Ren:=⟨fun | 6=>145 | 15=>189 | 14=>188 | 28=>229 | 29=>230 | 20=>221 | 21=>222 | 22=>223 | 23=>224 | 24=>225 | 25=>226 | 26=>227 | 27=>228 | 46=>250 | 47=>251 | 48=>252 | 49=>253 | 50=>254 | 57=>261 | n=>n,fun | 22=>185 | 24=>107 | 25=>191 | 3=>3 | 39=>233 | 0=>0 | 53=>229 | 55=>228 | 4=>4 | 46=>319 | 45=>318 | 50=>168 | 5=>5 | 9=>9 | 66=>343 | 70=>347 | 76=>351 | 77=>352 | n=>n,fun | n=>n⟩
theorem Tryz.Qj:Go.Proofs.SlLaysF0.n6 Tryz.prog Tryz.KD:={
 mixed:=by kernel_rfl
 f6:=⟨Tryz.f145.name,by decide,Tryz.func145.trans (congrArg some (by kernel_rfl))⟩
 f14:=⟨Tryz.f188.name,by decide,Tryz.func188.trans (congrArg some (by kernel_rfl))⟩
 f15:=Tryz.func189.trans (congrArg some (by kernel_rfl))
 f20:=⟨Tryz.f221.name,by decide,Tryz.func221.trans (congrArg some (by kernel_rfl))⟩
 f21:=⟨Tryz.f222.name,by decide,Tryz.func222.trans (congrArg some (by kernel_rfl))⟩
 f22:=⟨Tryz.f223.name,by decide,Tryz.func223.trans (congrArg some (by kernel_rfl))⟩
 f23:=⟨Tryz.f224.name,by decide,Tryz.func224.trans (congrArg some (by kernel_rfl))⟩
 f24:=⟨Tryz.f225.name,by decide,Tryz.func225.trans (congrArg some (by kernel_rfl))⟩
 f25:=⟨Tryz.f226.name,by decide,Tryz.func226.trans (congrArg some (by kernel_rfl))⟩
 f26:=⟨Tryz.f227.name,by decide,Tryz.func227.trans (congrArg some (by kernel_rfl))⟩
 f27:=⟨Tryz.f228.name,by decide,Tryz.func228.trans (congrArg some (by kernel_rfl))⟩
 f28:=Tryz.func229.trans (congrArg some (by kernel_rfl))
 f29:=Tryz.func230.trans (congrArg some (by kernel_rfl))
 f46:=⟨Tryz.f250.name,by decide,Tryz.func250.trans (congrArg some (by kernel_rfl))⟩
 f47:=Tryz.func251.trans (congrArg some (by kernel_rfl))
 f48:=Tryz.func252.trans (congrArg some (by kernel_rfl))
 f49:=⟨Tryz.f253.name,by decide,Tryz.func253.trans (congrArg some (by kernel_rfl))⟩
 f50:=⟨Tryz.f254.name,by decide,Tryz.func254.trans (congrArg some (by kernel_rfl))⟩
 f57:=⟨Tryz.f261.name,by decide,Tryz.func261.trans (congrArg some (by kernel_rfl))⟩
 t0:=Tryz.underlying0
 a0:=Tryz.isAgg0
 z0:=Tryz.sizeOf0
 v0:=Tryz.zeroValue0
 t3:=Tryz.underlying3
 a3:=Tryz.isAgg3
 z3:=Tryz.sizeOf3
 v3:=Tryz.zeroValue3
 t4:=Tryz.underlying4
 a4:=Tryz.isAgg4
 z4:=Tryz.sizeOf4
 v4:=Tryz.zeroValue4
 t5:=Tryz.underlying5
 a5:=Tryz.isAgg5
 z5:=Tryz.sizeOf5
 v5:=Tryz.zeroValue5
 t9:=Tryz.underlying9
 a9:=Tryz.isAgg9
 z9:=Tryz.sizeOf9
 v9:=Tryz.zeroValue9
 t22:=Tryz.underlying185
 a22:=Tryz.isAgg185
 z22:=Tryz.sizeOf185
 v22:=Tryz.zeroValue185
 t25:=Tryz.underlying191
 a25:=Tryz.isAgg191
 z25:=Tryz.sizeOf191
 v25:=Tryz.zeroValue191
 t39:=Tryz.underlying233
 a39:=Tryz.isAgg233
 z39:=Tryz.sizeOf233
 v39:=Tryz.zeroValue233
 t45:=Tryz.underlying318
 a45:=Tryz.isAgg318
 z45:=Tryz.sizeOf318
 v45:=Tryz.zeroValue318
 t46:=Tryz.underlying319
 a46:=Tryz.isAgg319
 z46:=Tryz.sizeOf319
 v46:=Tryz.zeroValue319
 t50:=Tryz.underlying168
 a50:=Tryz.isAgg168
 z50:=Tryz.sizeOf168
 v50:=Tryz.zeroValue168
 t53:=Tryz.underlying229
 a53:=Tryz.isAgg229
 z53:=Tryz.sizeOf229
 v53:=Tryz.zeroValue229
 t55:=Tryz.underlying228
 a55:=Tryz.isAgg228
 z55:=Tryz.sizeOf228
 v55:=Tryz.zeroValue228
 t66:=Tryz.underlying343
 a66:=Tryz.isAgg343
 z66:=Tryz.sizeOf343
 v66:=Tryz.zeroValue343
 t70:=Tryz.underlying347
 a70:=Tryz.isAgg347
 z70:=Tryz.sizeOf347
 v70:=Tryz.zeroValue347
 t76:=Tryz.underlying351
 a76:=Tryz.isAgg351
 z76:=Tryz.sizeOf351
 v76:=Tryz.zeroValue351
 t77:=Tryz.underlying352
 a77:=Tryz.isAgg352
 z77:=Tryz.sizeOf352
 v77:=Tryz.zeroValue352 }
end Go.Proofs
namespace Go.Proofs.SeatU
open Go.Dn Go.Md Go.Proofs Go.RowKit Go.Shelf Go.Lib Go.Sort
theorem Wo {G:Gh} {x:Two} {a:List Value} (h:aN G FU x a):a=[.string (bs x.1),.string (bs x.2)]:=by
 obtain⟨c,r,e,h1,h2⟩:=h
 have g1:c=[.string (bs x.1)]:=h1
 have g2:r=[.string (bs x.2)]:=h2
 subst g1;subst g2;exact e
theorem abV (a1 a2 b1 b2:List UInt8) (w:World): Calls Tryz.prog 85 #[.agg #[.string (bs a1),.string (bs a2)],.agg #[.string (bs b1),.string (bs b2)]] w fun e w'=>e= .returned (.int .i64 (bif Lib.compareBytes a1 b1==0 then Lib.compareBytes a2 b2 else Lib.compareBytes a1 b1))/\∃ q os,w'=grow (w.drewN q) os:=by
 have mixed:Tryz.prog.follows .mixedOrders=true:=by kernel_rfl
 have aP:=Tryz.isAgg107;have zP:=Tryz.sizeOf107
 have t3:=Tryz.underlying3;have t4:=Tryz.underlying4
 have a3:=Tryz.isAgg3;have z3:=Tryz.sizeOf3
 have t9:=Tryz.underlying9;have a9:=Tryz.isAgg9;have z9:=Tryz.sizeOf9;have t30:=Tryz.underlying30;have a30:=Tryz.isAgg30;have z30:=Tryz.sizeOf30
 have eO:∀ args w,(callFunc 86 args).run Tryz.prog w= .ok (.enter 86 args) w:=enters_of Tryz.func86 (by kernel_rfl) rfl
 have t54:=Tryz.underlying107
 have t0:=Tryz.underlying0;have a0:=Tryz.isAgg0;have z0:=Tryz.sizeOf0
 have eC:∀ args w,(callFunc 81 args).run Tryz.prog w= .ok (.enter 81 args) w:=enters_of Tryz.func81 (by kernel_rfl) rfl
 have hcmp:∀ (s c:List UInt8) w,Calls Tryz.prog 81 #[.string (bs s),.string (bs c)] w fun e w'=>e= .returned (.int .i64 (Lib.compareBytes s c))/\w'=w:=fun s c w=>by
  have:=Any.strings_Compare Tryz.Z3 (bs s) (bs c) w
  change Calls Tryz.prog 81 _ _ _ at this
  simpa [bs] using this
 obtain⟨d1,e1⟩:∃ d,d=Lib.compareBytes a1 b1:=⟨_,rfl⟩
 obtain⟨d2,e2⟩:∃ d,d=Lib.compareBytes a2 b2:=⟨_,rfl⟩
 have hc1:=fun w=>hcmp a1 b1 w
 have hc2:=fun w=>hcmp a2 b2 w
 rw[<- e1] at hc1 ⊢
 rw[<- e2] at hc2 ⊢
 clear hcmp e1 e2
 go_enter Tryz.func85,Tryz.ntmps85
 go_wp2
 refine wp_region_still_tail 10 mixed (by kernel_rfl) ?_
 simp only[List.take_succ_cons,List.take_zero,List.drop_succ_cons,List.drop_zero]
 obtain⟨W,hW⟩:∃ W,W=((w.alloc (Obj.cells #[Value.string (bs a1),Value.string (bs a2)] 107)).alloc (Obj.cells #[Value.string (bs b1),Value.string (bs b2)] 107)).drewN 1:=⟨_,rfl⟩
 have hWe:({ ((w.alloc (Obj.cells #[Value.string (bs a1),Value.string (bs a2)] 107)).alloc (Obj.cells #[Value.string (bs b1),Value.string (bs b2)] 107)) with drawn:=((w.alloc (Obj.cells #[Value.string (bs a1),Value.string (bs a2)] 107)).alloc (Obj.cells #[Value.string (bs b1),Value.string (bs b2)] 107)).drawn+1 }:World)=W:=by rw[hW];rfl
 rw[hWe]
 have hA:W.heap[w.heap.size]? =some (.cells #[Value.string (bs a1),Value.string (bs a2)] 107 (0,0)):=by
  rw[hW];exact (Below.heap_alloc _ _ _ (by simp)).trans (World.alloc_heap_new w _)
 have hB:W.heap[w.heap.size+1]? =some (.cells #[Value.string (bs b1),Value.string (bs b2)] 107 (0,0)):=by
  rw[hW]
  have:=World.alloc_heap_new (w.alloc (Obj.cells #[Value.string (bs a1),Value.string (bs a2)] 107)) (Obj.cells #[Value.string (bs b1),Value.string (bs b2)] 107)
  rw[World.size_alloc] at this
  exact this
 have hA0:W.cell? ⟨w.heap.size,0,none⟩=some (.string (bs a1)):=by simp[World.cell?,hA]
 have hA1:W.cell? ⟨w.heap.size,1,none⟩=some (.string (bs a2)):=by simp[World.cell?,hA]
 have hB0:W.cell? ⟨w.heap.size+1,0,none⟩=some (.string (bs b1)):=by simp[World.cell?,hB]
 have hB1:W.cell? ⟨w.heap.size+1,1,none⟩=some (.string (bs b2)):=by simp[World.cell?,hB]
 clear hWe
 repeat still_step
 still_call (hc1 _)
 repeat still_step
 still_call (hc2 _)
 refine wpStill_nil ?_
 go_wp2
 refine wp_loop_rounds 3 ?_
 repeat any_goals (rw[rounds_succ];go_wp2)
 all_goals go_ret
 all_goals refine⟨?_,1,_,by rw[show ((w.alloc (Obj.cells #[Value.string (bs a1),Value.string (bs a2)] 107)).alloc (Obj.cells #[Value.string (bs b1),Value.string (bs b2)] 107)).drewN 1=((w.drewN 1).alloc (Obj.cells #[Value.string (bs a1),Value.string (bs a2)] 107)).alloc (Obj.cells #[Value.string (bs b1),Value.string (bs b2)] 107) from rfl,alloc_eq_grow,alloc_eq_grow,alloc_eq_grow,grow_grow,grow_grow]⟩
 ·have h1:(d1 != 0)=true:=by assumption
  have h2:(d1==0)=false:=by simpa using h1
  rw[h2];rfl
 ·have h1:(d1 != 0)=false:=by assumption
  have h2:(d1==0)=true:=by simpa using h1
  rw[h2];rfl
 ·have h1:(d1 != 0)=false:=by assumption
  have h2:(d1==0)=true:=by simpa using h1
  have h3:(d2 != 0)=false:=by assumption
  have h4:d2=0:=by simpa using h3
  rw[h2,h4];rfl
theorem agc:SWO (ltOf lZ):=by
 have key:∀ a b:Two,ltOf lZ a b=true↔Op.bytesLess a.1 b.1=true\/(a.1=b.1/\Op.bytesLess a.2 b.2=true):=fun a b=>by
  show decide (lZ a b<0)=true↔_
  rw[decide_eq_true_iff];exact O6
 have irr:∀ x,ltOf lZ x x=false:=fun x=>by
  rw[Bool.eq_false_iff,Ne,key,dA,dA];simp
 have tr:∀ x y z,ltOf lZ x y=true->ltOf lZ y z=true->ltOf lZ x z=true:=fun x y z h1 h2=>by
  rw[key] at*
  rcases h1 with h1 | ⟨e1,h1⟩
  ·rcases h2 with h2 | ⟨e2,h2⟩
   ·exact .inl (jC h1 h2)
   ·exact .inl (e2 ▸ h1)
  ·rcases h2 with h2 | ⟨e2,h2⟩
   ·exact .inl (e1 ▸ h2)
   ·exact .inr ⟨e1.trans e2,jC h1 h2⟩
 refine⟨irr,tr,fun x y z h1 h2=> ?_⟩
 cases h:ltOf lZ x z with
 | false=>rfl
 | true=>
  rcases Wn x y with g | g | g
  ·rw[show ltOf lZ x y=true from decide_eq_true g] at h1;cases h1
  ·subst g;rw[h] at h2;cases h2
  ·have:=tr y x z (decide_eq_true g) h;rw[this] at h2;cases h2
theorem adx:Ua Tryz.prog 85 FU (fun _=>true) lZ:=by
 intro G x y a b ha hb _ _ w
 rw[Wo ha,Wo hb]
 exact abV _ _ _ _ w
theorem ad2:gU Tryz.prog 145 (KC 107 FU 85 (fun _=>true) lZ):=aeh Tryz.Qj (t:=FU) Tryz.isAgg107 Tryz.sizeOf107 agc adx (enters_of Tryz.func85 (by kernel_rfl) rfl)
theorem agH:Ub Tryz.prog 107:=ae1 (by kernel_rfl) (by decide) (by decide) (by kernel_rfl) Tryz.underlying107 (by kernel_rfl) (by kernel_rfl) (by kernel_rfl) (by kernel_rfl) (by kernel_rfl) rfl rfl (by decide) (by decide)
noncomputable def ach:BH:= .mk 146
theorem afM:fm Tryz.prog 84:=iG (fn:=Tryz.f84) (by kernel_rfl) rfl (by decide)
theorem afQ:Ge Tryz.prog 84 ach:=⟨102,SeatS.Zk⟩
noncomputable def acg:BH:= .srt2 146 107 107 85 lZ
theorem afL:fm Tryz.prog 83:=iG (fn:=Tryz.f83) (by kernel_rfl) rfl (by decide)
theorem afP:Ge Tryz.prog 83 acg:=SeatS.RV agH agc ad2
end Go.Proofs.SeatU
namespace Go.Proofs.SeatU
open Go.Dn Go.Md Go.Proofs Go.RowKit Go.Shelf Go.Lib Go.Sort
end Go.Proofs.SeatU
set_option maxRecDepth 100000
namespace Go.Proofs
open Go.Shelf
def Tryz.VY:Go.Shelf.Ren:=⟨fun | 7=>91 | 10=>151 | n=>n,fun | 23=>133 | 26=>3 | 3=>117 | 28=>196 | 0=>0 | 27=>195 | 33=>74 | 4=>4 | n=>n,fun | n=>n⟩
theorem Tryz.aew:Go.Proofs.SlLaysZI.n7 Tryz.prog Tryz.VY:={
 mixed:=by kernel_rfl
 f7:=⟨Tryz.f91.name,by decide,Tryz.func91.trans (congrArg some (by kernel_rfl))⟩
 f10:=⟨Tryz.f151.name,by decide,Tryz.func151.trans (congrArg some (by kernel_rfl))⟩
 t0:=Tryz.underlying0
 a0:=Tryz.isAgg0
 z0:=Tryz.sizeOf0
 v0:=Tryz.zeroValue0
 t4:=Tryz.underlying4
 a4:=Tryz.isAgg4
 z4:=Tryz.sizeOf4
 v4:=Tryz.zeroValue4
 t23:=Tryz.underlying133
 a23:=Tryz.isAgg133
 z23:=Tryz.sizeOf133
 v23:=Tryz.zeroValue133
 t26:=Tryz.underlying3
 a26:=Tryz.isAgg3
 z26:=Tryz.sizeOf3
 v26:=Tryz.zeroValue3
 t27:=Tryz.underlying195
 a27:=Tryz.isAgg195
 z27:=Tryz.sizeOf195
 v27:=Tryz.zeroValue195
 t28:=Tryz.underlying196
 a28:=Tryz.isAgg196
 z28:=Tryz.sizeOf196
 v28:=Tryz.zeroValue196
 t33:=Tryz.underlying74
 a33:=Tryz.isAgg74
 z33:=Tryz.sizeOf74
 v33:=Tryz.zeroValue74 }
def Tryz.QM:Go.Shelf.Ren:=⟨fun | 6=>90 | 8=>149 | 9=>150 | 11=>197 | 13=>189 | 12=>198 | 23=>229 | 24=>230 | 14=>231 | 15=>232 | 16=>233 | 17=>234 | 18=>235 | 19=>236 | 20=>237 | 21=>238 | 22=>239 | 25=>255 | 26=>251 | 27=>252 | 28=>256 | 29=>257 | 30=>258 | 31=>262 | n=>n,fun | 26=>3 | 28=>196 | 24=>83 | 0=>0 | 3=>3 | 37=>233 | 48=>229 | 50=>228 | 4=>4 | 40=>319 | 39=>318 | 45=>168 | 5=>5 | 9=>9 | 51=>343 | 55=>347 | 57=>351 | 58=>352 | 33=>74 | n=>n,fun | n=>n⟩
theorem Tryz.afs:Go.Proofs.SlLaysZI.n6 Tryz.prog Tryz.QM:={
 mixed:=by kernel_rfl
 f6:=⟨Tryz.f90.name,by decide,Tryz.func90.trans (congrArg some (by kernel_rfl))⟩
 f8:=⟨Tryz.f149.name,by decide,Tryz.func149.trans (congrArg some (by kernel_rfl))⟩
 f11:=⟨Tryz.f197.name,by decide,Tryz.func197.trans (congrArg some (by kernel_rfl))⟩
 t0:=Tryz.underlying0
 a0:=Tryz.isAgg0
 z0:=Tryz.sizeOf0
 v0:=Tryz.zeroValue0
 t24:=Tryz.underlying83
 a24:=Tryz.isAgg83
 z24:=Tryz.sizeOf83
 v24:=Tryz.zeroValue83
 t26:=Tryz.underlying3
 a26:=Tryz.isAgg3
 z26:=Tryz.sizeOf3
 v26:=Tryz.zeroValue3
 t28:=Tryz.underlying196
 a28:=Tryz.isAgg196
 z28:=Tryz.sizeOf196
 v28:=Tryz.zeroValue196
 i26:=by kernel_rfl }
def Tryz.ac6:Go.Shelf.Ren:=⟨fun | 5=>150 | 8=>189 | 7=>198 | 19=>229 | 20=>230 | 10=>231 | 11=>232 | 12=>233 | 13=>234 | 14=>235 | 15=>236 | 16=>237 | 17=>238 | 18=>239 | 30=>255 | 31=>251 | 32=>252 | 33=>256 | 34=>257 | 35=>258 | 40=>262 | n=>n,fun | 23=>83 | 25=>3 | 3=>3 | 32=>233 | 22=>83 | 0=>0 | 44=>229 | 46=>228 | 4=>4 | 36=>319 | 35=>318 | 41=>168 | 5=>5 | 9=>9 | 53=>343 | 57=>347 | 63=>351 | 64=>352 | n=>n,fun | n=>n⟩
theorem Tryz.aey:Go.Proofs.SlLaysM.n5 Tryz.prog Tryz.ac6:={
 mixed:=by kernel_rfl
 f5:=⟨Tryz.f150.name,by decide,Tryz.func150.trans (congrArg some (by kernel_rfl))⟩
 f7:=⟨Tryz.f198.name,by decide,Tryz.func198.trans (congrArg some (by kernel_rfl))⟩
 f8:=Tryz.func189.trans (congrArg some (by kernel_rfl))
 f10:=⟨Tryz.f231.name,by decide,Tryz.func231.trans (congrArg some (by kernel_rfl))⟩
 f11:=⟨Tryz.f232.name,by decide,Tryz.func232.trans (congrArg some (by kernel_rfl))⟩
 f12:=⟨Tryz.f233.name,by decide,Tryz.func233.trans (congrArg some (by kernel_rfl))⟩
 f13:=⟨Tryz.f234.name,by decide,Tryz.func234.trans (congrArg some (by kernel_rfl))⟩
 f14:=⟨Tryz.f235.name,by decide,Tryz.func235.trans (congrArg some (by kernel_rfl))⟩
 f15:=⟨Tryz.f236.name,by decide,Tryz.func236.trans (congrArg some (by kernel_rfl))⟩
 f16:=⟨Tryz.f237.name,by decide,Tryz.func237.trans (congrArg some (by kernel_rfl))⟩
 f17:=⟨Tryz.f238.name,by decide,Tryz.func238.trans (congrArg some (by kernel_rfl))⟩
 f18:=⟨Tryz.f239.name,by decide,Tryz.func239.trans (congrArg some (by kernel_rfl))⟩
 f19:=Tryz.func229.trans (congrArg some (by kernel_rfl))
 f20:=Tryz.func230.trans (congrArg some (by kernel_rfl))
 f30:=⟨Tryz.f255.name,by decide,Tryz.func255.trans (congrArg some (by kernel_rfl))⟩
 f31:=Tryz.func251.trans (congrArg some (by kernel_rfl))
 f32:=Tryz.func252.trans (congrArg some (by kernel_rfl))
 f33:=⟨Tryz.f256.name,by decide,Tryz.func256.trans (congrArg some (by kernel_rfl))⟩
 f34:=⟨Tryz.f257.name,by decide,Tryz.func257.trans (congrArg some (by kernel_rfl))⟩
 f35:=⟨Tryz.f258.name,by decide,Tryz.func258.trans (congrArg some (by kernel_rfl))⟩
 f40:=⟨Tryz.f262.name,by decide,Tryz.func262.trans (congrArg some (by kernel_rfl))⟩
 t0:=Tryz.underlying0
 a0:=Tryz.isAgg0
 z0:=Tryz.sizeOf0
 v0:=Tryz.zeroValue0
 t3:=Tryz.underlying3
 a3:=Tryz.isAgg3
 z3:=Tryz.sizeOf3
 v3:=Tryz.zeroValue3
 t4:=Tryz.underlying4
 a4:=Tryz.isAgg4
 z4:=Tryz.sizeOf4
 v4:=Tryz.zeroValue4
 t5:=Tryz.underlying5
 a5:=Tryz.isAgg5
 z5:=Tryz.sizeOf5
 v5:=Tryz.zeroValue5
 t9:=Tryz.underlying9
 a9:=Tryz.isAgg9
 z9:=Tryz.sizeOf9
 v9:=Tryz.zeroValue9
 t22:=Tryz.underlying83
 a22:=Tryz.isAgg83
 z22:=Tryz.sizeOf83
 v22:=Tryz.zeroValue83
 t23:=Tryz.underlying83
 a23:=Tryz.isAgg83
 z23:=Tryz.sizeOf83
 v23:=Tryz.zeroValue83
 t25:=Tryz.underlying3
 a25:=Tryz.isAgg3
 z25:=Tryz.sizeOf3
 v25:=Tryz.zeroValue3
 t32:=Tryz.underlying233
 a32:=Tryz.isAgg233
 z32:=Tryz.sizeOf233
 v32:=Tryz.zeroValue233
 t35:=Tryz.underlying318
 a35:=Tryz.isAgg318
 z35:=Tryz.sizeOf318
 v35:=Tryz.zeroValue318
 t36:=Tryz.underlying319
 a36:=Tryz.isAgg319
 z36:=Tryz.sizeOf319
 v36:=Tryz.zeroValue319
 t41:=Tryz.underlying168
 a41:=Tryz.isAgg168
 z41:=Tryz.sizeOf168
 v41:=Tryz.zeroValue168
 t44:=Tryz.underlying229
 a44:=Tryz.isAgg229
 z44:=Tryz.sizeOf229
 v44:=Tryz.zeroValue229
 t46:=Tryz.underlying228
 a46:=Tryz.isAgg228
 z46:=Tryz.sizeOf228
 v46:=Tryz.zeroValue228
 t53:=Tryz.underlying343
 a53:=Tryz.isAgg343
 z53:=Tryz.sizeOf343
 v53:=Tryz.zeroValue343
 t57:=Tryz.underlying347
 a57:=Tryz.isAgg347
 z57:=Tryz.sizeOf347
 v57:=Tryz.zeroValue347
 t63:=Tryz.underlying351
 a63:=Tryz.isAgg351
 z63:=Tryz.sizeOf351
 v63:=Tryz.zeroValue351
 t64:=Tryz.underlying352
 a64:=Tryz.isAgg352
 z64:=Tryz.sizeOf352
 v64:=Tryz.zeroValue352 }
end Go.Proofs
namespace Go.Proofs.SeatU
open Go.Dn Go.Md Go.Proofs Go.RowKit Go.Shelf Go.Lib Go.Sort
theorem aga (m:Nat):AnyZI.SortsIn Tryz.prog Tryz.QM Fence.wide m:=
 ⟨fun blk off cap ss W hH hblk hsz=>callsIn_wide.2 (AnyM.slices_Sort_int Tryz.aey blk off cap ss W hH hblk hsz),
  fun p cap W=>callsIn_wide.2 (AnyM.slices_Sort_int_none Tryz.aey p cap W)⟩
def acj:BH:= .mk 151
theorem afO:fm Tryz.prog 91:=iG (fn:=Tryz.f91) (by kernel_rfl) rfl (by decide)
theorem afS:Ge Tryz.prog 91 acj:=
 ⟨133,fun mb W=>callsIn_wide.1 (AnyZI.keys_in Tryz.aew Fence.wide 5 trivial rfl mb W)⟩
def aci:BH:= .srt 151 3 3
theorem afN:fm Tryz.prog 90:=iG (fn:=Tryz.f90) (by kernel_rfl) rfl (by decide)
theorem afR:Ge Tryz.prog 90 aci:=by
 refine⟨Tryz.underlying3,fun Bm b nn D0 w hB hc hown BN hbytes=> ?_⟩
 have hseq:SeqGives Fence.wide 2 Tryz.prog 151 #[.pointer (some ⟨Bm,0,none⟩)] encZ (fun ss=>ss.Perm (intKeys D0)) (Maps.size D0) w:=
  AnyZI.keys_gives (ρ:=Tryz.VY) { Tryz.aew with } Fence.wide _ trivial rfl (by omega) Bm b nn D0 _ hB hc hown
 have cS:=AnyZI.sorted_in Tryz.afs Fence.wide 5 trivial trivial trivial trivial rfl (by omega) (aga _) (enters_of Tryz.func150 (by kernel_rfl) rfl) 151 #[.pointer (some ⟨Bm,0,none⟩)] trivial (enters_of Tryz.func151 (by kernel_rfl) rfl) _ _ BN hbytes _ hseq
 change CallsIn _ _ Tryz.prog 90 _ _ _ at cS
 refine (callsIn_wide.1 cS).mono ?_
 rintro e w' ⟨v,ss,he,hS,hrow,_,hb⟩
 exact⟨v,ss,he,hS,hrow,hb⟩
end Go.Proofs.SeatU
