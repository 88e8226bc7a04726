/-
  Functions of the library by contracts. No condition.
-/
import Derived.Test.YtnamfglkolhhgadGreatDoorYo
import Derived.Test.YtnamfglkolhhgadGreatDoorYd
import Derived.Test.YtnamfglkolhhgadGreatDoorProg
import Derived.Shelf.LaysM
import Derived.Shelf.Strings.SlTrimAscii
import Derived.Shelf.Small.Strs
import Derived.Shelf.Strconv.Itoa3
import Derived.Shelf.Strings.Repeat
import Derived.Test.YtnamfglkolhhgadGreatDoorYl
import Derived.Shelf.Lays2
import Derived.Test.YtnamfglkolhhgadGreatDoorYk
import Derived.WalkKit
import Derived.LoopN
import Derived.StillTailTactics
set_option linter.all false
namespace Go.Proofs
open Go.Shelf
def Tryz.Zl:Go.Shelf.Ren:=⟨fun | 160=>18 | 232=>70 | 231=>69 | 227=>71 | 234=>73 | 233=>72 | 236=>75 | 235=>74 | 228=>135 | 271=>138 | 151=>137 | 197=>136 | 120=>189 | 152=>188 | 260=>187 | 137=>209 | 119=>210 | 224=>211 | 225=>212 | 217=>223 | 266=>226 | n=>n,fun | 9=>9 | 4=>4 | 3=>3 | 5=>5 | 117=>123 | 116=>122 | 0=>0 | 124=>126 | 21=>21 | 105=>173 | 46=>105 | 119=>234 | 139=>237 | 138=>236 | n=>n,fun | 3=>2 | 4=>3 | n=>n⟩
theorem Tryz.aeR:Go.Proofs.Lays.n160 Tryz.prog Tryz.Zl:={
 mixed:=by kernel_rfl
 f119:=Tryz.func210.trans (congrArg some (by kernel_rfl))
 f120:=Tryz.func189.trans (congrArg some (by kernel_rfl))
 f137:=Tryz.func209.trans (congrArg some (by kernel_rfl))
 f151:=Tryz.func137.trans (congrArg some (by kernel_rfl))
 f152:=Tryz.func188.trans (congrArg some (by kernel_rfl))
 f160:=Tryz.func18.trans (congrArg some (by kernel_rfl))
 f197:=Tryz.func136.trans (congrArg some (by kernel_rfl))
 f217:=Tryz.func223.trans (congrArg some (by kernel_rfl))
 f224:=Tryz.func211.trans (congrArg some (by kernel_rfl))
 f225:=Tryz.func212.trans (congrArg some (by kernel_rfl))
 f227:=Tryz.func71.trans (congrArg some (by kernel_rfl))
 f228:=Tryz.func135.trans (congrArg some (by kernel_rfl))
 f231:=Tryz.func69.trans (congrArg some (by kernel_rfl))
 f232:=Tryz.func70.trans (congrArg some (by kernel_rfl))
 f233:=Tryz.func72.trans (congrArg some (by kernel_rfl))
 f234:=Tryz.func73.trans (congrArg some (by kernel_rfl))
 f235:=Tryz.func74.trans (congrArg some (by kernel_rfl))
 f236:=Tryz.func75.trans (congrArg some (by kernel_rfl))
 f260:=Tryz.func187.trans (congrArg some (by kernel_rfl))
 f266:=Tryz.func226.trans (congrArg some (by kernel_rfl))
 f271:=Tryz.func138.trans (congrArg some (by kernel_rfl))
 t0:=Tryz.underlying0
 a0:=Tryz.isAgg0
 z0:=Tryz.sizeOf0
 v0:=Tryz.zeroValue0
 t3:=Tryz.underlying3
 a3:=Tryz.isAgg3
 z3:=Tryz.sizeOf3
 v3:=Tryz.zeroValue3
 t4:=Tryz.underlying4
 a4:=Tryz.isAgg4
 z4:=Tryz.sizeOf4
 v4:=Tryz.zeroValue4
 t5:=Tryz.underlying5
 a5:=Tryz.isAgg5
 z5:=Tryz.sizeOf5
 v5:=Tryz.zeroValue5
 t9:=Tryz.underlying9
 a9:=Tryz.isAgg9
 z9:=Tryz.sizeOf9
 v9:=Tryz.zeroValue9
 t21:=Tryz.underlying21
 a21:=Tryz.isAgg21
 z21:=Tryz.sizeOf21
 v21:=Tryz.zeroValue21
 t46:=Tryz.underlying105
 a46:=Tryz.isAgg105
 z46:=Tryz.sizeOf105
 v46:=Tryz.zeroValue105
 t105:=Tryz.underlying173
 a105:=Tryz.isAgg173
 z105:=Tryz.sizeOf173
 v105:=Tryz.zeroValue173
 t116:=Tryz.underlying122
 a116:=Tryz.isAgg122
 z116:=Tryz.sizeOf122
 t117:=Tryz.underlying123
 a117:=Tryz.isAgg123
 z117:=Tryz.sizeOf123
 v117:=Tryz.zeroValue123
 t119:=Tryz.underlying234
 a119:=Tryz.isAgg234
 z119:=Tryz.sizeOf234
 t124:=Tryz.underlying126
 a124:=Tryz.isAgg126
 z124:=Tryz.sizeOf126
 v124:=Tryz.zeroValue126
 t138:=Tryz.underlying236
 a138:=Tryz.isAgg236
 z138:=Tryz.sizeOf236
 v138:=Tryz.zeroValue236
 t139:=Tryz.underlying237
 a139:=Tryz.isAgg237
 z139:=Tryz.sizeOf237
 v139:=Tryz.zeroValue237
 g3:=by kernel_rfl
 g4:=by kernel_rfl }
def Tryz.Zk:Go.Shelf.Ren:=⟨fun | 106=>44 | 213=>106 | 265=>167 | n=>n,fun | 9=>9 | 3=>3 | n=>n,fun | n=>n⟩
theorem Tryz.Z6:Go.Proofs.Lays.n106 Tryz.prog Tryz.Zk:={
 mixed:=by kernel_rfl
 f106:=Tryz.func44.trans (congrArg some (by kernel_rfl))
 f213:=Tryz.func106.trans (congrArg some (by kernel_rfl))
 f265:=Tryz.func167.trans (congrArg some (by kernel_rfl))
 t3:=Tryz.underlying3
 a3:=Tryz.isAgg3
 z3:=Tryz.sizeOf3
 v3:=Tryz.zeroValue3
 t9:=Tryz.underlying9
 a9:=Tryz.isAgg9
 z9:=Tryz.sizeOf9
 v9:=Tryz.zeroValue9 }
def Tryz.XP:Go.Shelf.Ren:=⟨fun | 171=>14 | 243=>56 | 246=>123 | 283=>179 | 284=>180 | 285=>181 | 286=>182 | 129=>166 | 317=>205 | 318=>206 | 319=>207 | 320=>208 | 337=>221 | 338=>222 | n=>n,fun | 3=>3 | 9=>9 | 2=>2 | 4=>4 | 171=>210 | 0=>0 | 53=>145 | 37=>110 | 5=>5 | 173=>212 | 212=>232 | 51=>146 | 20=>20 | 213=>233 | 46=>105 | 232=>247 | 233=>248 | n=>n,fun | 17=>1 | 18=>4 | 19=>5 | n=>n⟩
theorem Tryz.adM:Go.Proofs.LaysM.n171 Tryz.prog Tryz.XP:={
 mixed:=by kernel_rfl
 f129:=Tryz.func166.trans (congrArg some (by kernel_rfl))
 f171:=Tryz.func14.trans (congrArg some (by kernel_rfl))
 f243:=Tryz.func56.trans (congrArg some (by kernel_rfl))
 f246:=Tryz.func123.trans (congrArg some (by kernel_rfl))
 f283:=Tryz.func179.trans (congrArg some (by kernel_rfl))
 f284:=Tryz.func180.trans (congrArg some (by kernel_rfl))
 f285:=Tryz.func181.trans (congrArg some (by kernel_rfl))
 f286:=Tryz.func182.trans (congrArg some (by kernel_rfl))
 f317:=Tryz.func205.trans (congrArg some (by kernel_rfl))
 f318:=Tryz.func206.trans (congrArg some (by kernel_rfl))
 f319:=Tryz.func207.trans (congrArg some (by kernel_rfl))
 f320:=Tryz.func208.trans (congrArg some (by kernel_rfl))
 f337:=Tryz.func221.trans (congrArg some (by kernel_rfl))
 f338:=Tryz.func222.trans (congrArg some (by kernel_rfl))
 t0:=Tryz.underlying0
 a0:=Tryz.isAgg0
 z0:=Tryz.sizeOf0
 v0:=Tryz.zeroValue0
 t2:=Tryz.underlying2
 a2:=Tryz.isAgg2
 z2:=Tryz.sizeOf2
 v2:=Tryz.zeroValue2
 t3:=Tryz.underlying3
 a3:=Tryz.isAgg3
 z3:=Tryz.sizeOf3
 v3:=Tryz.zeroValue3
 t4:=Tryz.underlying4
 a4:=Tryz.isAgg4
 z4:=Tryz.sizeOf4
 v4:=Tryz.zeroValue4
 t5:=Tryz.underlying5
 a5:=Tryz.isAgg5
 z5:=Tryz.sizeOf5
 v5:=Tryz.zeroValue5
 t9:=Tryz.underlying9
 a9:=Tryz.isAgg9
 z9:=Tryz.sizeOf9
 v9:=Tryz.zeroValue9
 t20:=Tryz.underlying20
 a20:=Tryz.isAgg20
 z20:=Tryz.sizeOf20
 v20:=Tryz.zeroValue20
 t37:=Tryz.underlying110
 a37:=Tryz.isAgg110
 z37:=Tryz.sizeOf110
 v37:=Tryz.zeroValue110
 t46:=Tryz.underlying105
 a46:=Tryz.isAgg105
 z46:=Tryz.sizeOf105
 v46:=Tryz.zeroValue105
 t51:=Tryz.underlying146
 a51:=Tryz.isAgg146
 z51:=Tryz.sizeOf146
 v51:=Tryz.zeroValue146
 t53:=Tryz.underlying145
 a53:=Tryz.isAgg145
 z53:=Tryz.sizeOf145
 v53:=Tryz.zeroValue145
 t171:=Tryz.underlying210
 a171:=Tryz.isAgg210
 z171:=Tryz.sizeOf210
 v171:=Tryz.zeroValue210
 t173:=Tryz.underlying212
 a173:=Tryz.isAgg212
 z173:=Tryz.sizeOf212
 v173:=Tryz.zeroValue212
 t212:=Tryz.underlying232
 a212:=Tryz.isAgg232
 z212:=Tryz.sizeOf232
 v212:=Tryz.zeroValue232
 t213:=Tryz.underlying233
 a213:=Tryz.isAgg233
 z213:=Tryz.sizeOf233
 t232:=Tryz.underlying247
 a232:=Tryz.isAgg247
 z232:=Tryz.sizeOf247
 v232:=Tryz.zeroValue247
 t233:=Tryz.underlying248
 a233:=Tryz.isAgg248
 z233:=Tryz.sizeOf248
 v233:=Tryz.zeroValue248
 g17:=by kernel_rfl
 g18:=by kernel_rfl
 g19:=by kernel_rfl
 i0:=by kernel_rfl
 i2:=by kernel_rfl
 i3:=by kernel_rfl
 i4:=by kernel_rfl
 i5:=by kernel_rfl
 i9:=by kernel_rfl
 i20:=by kernel_rfl
 i37:=by kernel_rfl
 i46:=by kernel_rfl
 i51:=by kernel_rfl
 i53:=by kernel_rfl
 i171:=by kernel_rfl
 i173:=by kernel_rfl
 i212:=by kernel_rfl
 i232:=by kernel_rfl
 i233:=by kernel_rfl
 m17:=by kernel_rfl
 m18:=by kernel_rfl
 m19:=by kernel_rfl }
def Tryz.OH:Go.Shelf.Ren:=⟨fun | 105=>16 | 212=>63 | 99=>64 | 165=>65 | 166=>66 | 170=>67 | 169=>68 | 263=>130 | 264=>131 | 206=>132 | 240=>133 | 241=>134 | 276=>185 | 277=>186 | n=>n,fun | 9=>9 | 3=>3 | 4=>4 | 20=>20 | 0=>0 | 46=>105 | 109=>106 | 5=>5 | 72=>112 | 76=>116 | 51=>146 | 146=>167 | 53=>145 | 148=>169 | 70=>109 | 37=>110 | 75=>115 | 127=>171 | 164=>214 | 80=>119 | n=>n,fun | n=>n⟩
theorem Tryz.aeQ:Go.Proofs.Lays.n105 Tryz.prog Tryz.OH:={
 mixed:=by kernel_rfl
 f99:=Tryz.func64.trans (congrArg some (by kernel_rfl))
 f105:=Tryz.func16.trans (congrArg some (by kernel_rfl))
 f165:=Tryz.func65.trans (congrArg some (by kernel_rfl))
 f166:=Tryz.func66.trans (congrArg some (by kernel_rfl))
 f169:=Tryz.func68.trans (congrArg some (by kernel_rfl))
 f170:=Tryz.func67.trans (congrArg some (by kernel_rfl))
 f206:=Tryz.func132.trans (congrArg some (by kernel_rfl))
 f212:=Tryz.func63.trans (congrArg some (by kernel_rfl))
 f240:=Tryz.func133.trans (congrArg some (by kernel_rfl))
 f241:=Tryz.func134.trans (congrArg some (by kernel_rfl))
 f263:=Tryz.func130.trans (congrArg some (by kernel_rfl))
 f264:=Tryz.func131.trans (congrArg some (by kernel_rfl))
 f276:=Tryz.func185.trans (congrArg some (by kernel_rfl))
 f277:=Tryz.func186.trans (congrArg some (by kernel_rfl))
 t0:=Tryz.underlying0
 a0:=Tryz.isAgg0
 z0:=Tryz.sizeOf0
 v0:=Tryz.zeroValue0
 t3:=Tryz.underlying3
 a3:=Tryz.isAgg3
 z3:=Tryz.sizeOf3
 v3:=Tryz.zeroValue3
 t4:=Tryz.underlying4
 a4:=Tryz.isAgg4
 z4:=Tryz.sizeOf4
 v4:=Tryz.zeroValue4
 t5:=Tryz.underlying5
 a5:=Tryz.isAgg5
 z5:=Tryz.sizeOf5
 v5:=Tryz.zeroValue5
 t9:=Tryz.underlying9
 a9:=Tryz.isAgg9
 z9:=Tryz.sizeOf9
 v9:=Tryz.zeroValue9
 t20:=Tryz.underlying20
 a20:=Tryz.isAgg20
 z20:=Tryz.sizeOf20
 v20:=Tryz.zeroValue20
 t37:=Tryz.underlying110
 a37:=Tryz.isAgg110
 z37:=Tryz.sizeOf110
 v37:=Tryz.zeroValue110
 t46:=Tryz.underlying105
 a46:=Tryz.isAgg105
 z46:=Tryz.sizeOf105
 v46:=Tryz.zeroValue105
 t51:=Tryz.underlying146
 a51:=Tryz.isAgg146
 z51:=Tryz.sizeOf146
 v51:=Tryz.zeroValue146
 t53:=Tryz.underlying145
 a53:=Tryz.isAgg145
 z53:=Tryz.sizeOf145
 v53:=Tryz.zeroValue145
 t70:=Tryz.underlying109
 a70:=Tryz.isAgg109
 z70:=Tryz.sizeOf109
 v70:=Tryz.zeroValue109
 t72:=Tryz.underlying112
 a72:=Tryz.isAgg112
 z72:=Tryz.sizeOf112
 v72:=Tryz.zeroValue112
 t75:=Tryz.underlying115
 a75:=Tryz.isAgg115
 z75:=Tryz.sizeOf115
 v75:=Tryz.zeroValue115
 t76:=Tryz.underlying116
 a76:=Tryz.isAgg116
 z76:=Tryz.sizeOf116
 v76:=Tryz.zeroValue116
 t109:=Tryz.underlying106
 a109:=Tryz.isAgg106
 z109:=Tryz.sizeOf106
 v109:=Tryz.zeroValue106
 t127:=Tryz.underlying171
 a127:=Tryz.isAgg171
 z127:=Tryz.sizeOf171
 v127:=Tryz.zeroValue171
 t146:=Tryz.underlying167
 a146:=Tryz.isAgg167
 z146:=Tryz.sizeOf167
 v146:=Tryz.zeroValue167
 t148:=Tryz.underlying169
 a148:=Tryz.isAgg169
 z148:=Tryz.sizeOf169
 v148:=Tryz.zeroValue169
 t164:=Tryz.underlying214
 a164:=Tryz.isAgg214
 z164:=Tryz.sizeOf214
 v164:=Tryz.zeroValue214 }
end Go.Proofs
namespace Go.Proofs
theorem Tryz.NH:Builder.Extra Tryz.prog Tryz.OH:={
 sizeBuilder:=by kernel_rfl
 liesBuilder:=by kernel_rfl
 t5:=Tryz.underlying5
 a5:=Tryz.isAgg5
 z5:=Tryz.sizeOf5
 v5:=Tryz.zeroValue5
 infoByte:=by kernel_rfl
 cellsByte:=by kernel_rfl
 sizeByte:=by kernel_rfl
 neB5:=by decide }
end Go.Proofs
namespace Go.Proofs.SeatU
open Go.Dn Go.Md Go.Proofs Go.RowKit Go.Shelf Go.Lib
def uY:aA:=⟨[.val .str,.val .str],[.val .str],fun x=>iA x.1 x.2.1⟩
theorem Gq:ay Tryz.prog 18:=au (fn:=Tryz.f18) (by kernel_rfl) rfl (by decide)
theorem GA:aF Tryz.prog 18 uY:=by
 intro G w ow args x y hG how ha hm
 refine Zb (P:=Tryz.prog) (f:=18) (m:=uY.m) ?_ G w ow args x y hG how ha hm
 intro s c r w hm
 replace hm:iA s c=some (r,()):=hm
 unfold iA at hm
 cases hb:(decide (s.length≤9223372036854775807)&&(decide (c.length<4294967281)&&c.all fun b=>decide (b.toNat<128))) with
 | false=>rw[hb] at hm;cases hm
 | true=>
  rw[hb] at hm
  simp only[cond_true,Option.some.injEq,Prod.mk.injEq,and_true] at hm
  subst hm
  simp only[Bool.and_eq_true,decide_eq_true_eq,List.all_eq_true] at hb
  have:=Any.strings_Trim_laid Tryz.aeR (by kernel_rfl) (bs s) (bs c) w (by simpa [bs,ByteArray.size] using hb.1) (by simpa [bs,ByteArray.size] using hb.2.1) (fun j b hj=>hb.2.2 b (List.mem_of_getElem? (by simpa [bs] using hj)))
  change Calls Tryz.prog 18 _ _ _ at this
  simpa [bs] using this
def jI:aA:=⟨[.val .str,.val .str],[.val tI],fun x=>strings_Compare x.1 x.2.1⟩
theorem oN:ay Tryz.prog 44:=au (fn:=Tryz.f44) (by kernel_rfl) rfl (by decide)
theorem oQ:aF Tryz.prog 44 jI:=by
 intro G w ow args x y hG how ha hm
 refine ab7 (P:=Tryz.prog) (f:=44) (t:=tI) (m:=jI.m) ?_ G w ow args x y hG how ha hm
 intro s c r w hm
 replace hm:strings_Compare s c=some (r,()):=hm
 unfold strings_Compare at hm
 obtain rfl:Lib.compareBytes s c=r:=congrArg (fun o=>(Option.getD o (0,())).1) hm
 have:=Any.strings_Compare Tryz.Z6 (bs s) (bs c) w
 refine⟨.int .i64 (Lib.compareBytes s c),fun G=> ?_,this.mono ?_⟩
 ·rfl
 ·rintro e w' ⟨he,rfl⟩
  exact⟨he,Below.refl _ _⟩
theorem aeC (n:Nat) (h:n<100):Lib.decDigits n=W6 n:=by
 unfold W6
 rw[Lib.decDigits]
 by_cases h1:n<10
 ·simp[h1]
 ·rw[dif_neg h1,Lib.decDigits,dif_pos (by omega),if_neg h1];rfl
def pV:aA:=⟨[.val tI],[.val .str],fun x=>strconv_Itoa x.1⟩
theorem AB:ay Tryz.prog 14:=au (fn:=Tryz.f14) (by kernel_rfl) rfl (by decide)
theorem AK:aF Tryz.prog 14 pV:=by
 intro G w ow args x y hG how ha hm
 refine Xm (P:=Tryz.prog) (f:=14) (a:=tI) (t:= .str) (m:=pV.m) (g:=1) (by kernel_rfl) rfl ?_ G w ow args x y hG how ha hm
 intro (n:Int) (r:List UInt8) w htab hm
 replace hm:strconv_Itoa n=some (r,()):=hm
 unfold strconv_Itoa at hm
 have fin: -9223372036854775808≤n→n≤9223372036854775807→Lib.itoa n=r→∃ v,(∀ G:Gh,bQ G .str r v)∧Calls Tryz.prog 14 #[JC tI n] w fun e w'=>e= .returned v∧RowKit.Below w.heap.size w w':=by
  intro h0 h1 e
  subst e
  have:=Any.strconv_Itoa Tryz.adM n h0 h1 w htab
  refine⟨.string (bs (Lib.itoa n)),fun G=>rfl,this.mono ?_⟩
  rintro e w' ⟨he,k,os,rfl⟩
  exact⟨he,YP w k os⟩
 cases hb:(decide (0≤n)&&decide (n<100)) with
 | true=>
  rw[hb] at hm
  simp only[cond_true,Option.some.injEq,Prod.mk.injEq,and_true] at hm
  simp only[Bool.and_eq_true,decide_eq_true_eq] at hb
  obtain⟨k,rfl⟩:∃ k:Nat,n=k:=⟨n.toNat,by omega⟩
  refine fin (by omega) (by omega) ?_
  rw[← hm,Int.toNat_natCast, ← aeC k (by omega)]
  rfl
 | false=>
  rw[hb,cond_false] at hm
  cases hc:(decide (-9223372036854775808≤n)&&decide (n≤9223372036854775807)) with
  | false=>rw[hc] at hm;cases hm
  | true=>
   rw[hc] at hm
   simp only[cond_true,Option.some.injEq,Prod.mk.injEq,and_true] at hm
   simp only[Bool.and_eq_true,decide_eq_true_eq] at hc
   exact fin hc.1 hc.2 hm
def qN:aA:=⟨[.val .str,.val tI],[.val .str],fun x=>strings_Repeat x.1 x.2.1⟩
theorem D4:ay Tryz.prog 16:=au (fn:=Tryz.f16) (by kernel_rfl) rfl (by decide)
theorem D7:aF Tryz.prog 16 qN:=by
 intro G w ow args x y hG how ha hm
 refine Za (P:=Tryz.prog) (f:=16) (a:= .str) (a':=tI) (t:= .str) (m:=qN.m) rfl rfl ?_ G w ow args x y hG how ha hm
 intro (s:List UInt8) (n:Int) (r:List UInt8) w hm
 replace hm:strings_Repeat s n=some (r,()):=hm
 unfold strings_Repeat at hm
 cases hb:(decide (0≤n)&&(decide (n≤9223372036854775807)&&decide (s.length*n.toNat≤140737488355328))) with
 | false=>rw[hb] at hm;cases hm
 | true=>
  rw[hb] at hm
  simp only[cond_true,Option.some.injEq,Prod.mk.injEq,and_true] at hm
  subst hm
  simp only[Bool.and_eq_true,decide_eq_true_eq] at hb
  obtain⟨k,rfl⟩:∃ k:Nat,n=k:=⟨n.toNat,by omega⟩
  have hsz:(bs s).size=s.length:=by simp[bs,ByteArray.size]
  have:=Any.strings_Repeat Tryz.aeQ Tryz.NH (bs s) k w (by omega) (by rw[hsz];simpa using hb.2.2)
  refine⟨.string (bs (Lib.repeatL s k)),fun G=>rfl,this.mono ?_⟩
  rintro e w' ⟨he,hbel⟩
  exact⟨he,hbel⟩
noncomputable def Bn:aA:=⟨[.val .str],[.val tI],fun x=>D3 x.1⟩
theorem Jp:ay Tryz.prog 59:=au (fn:=Tryz.f59) (by kernel_rfl) rfl (by decide)
theorem JK:aF Tryz.prog 59 Bn:=lG Tryz.prog 59 [.val .str] [.val tI]
noncomputable def zG:aA:=⟨[.val .str],[.val .bool],fun x=>DN x.1⟩
theorem EV:ay Tryz.prog 61:=au (fn:=Tryz.f61) (by kernel_rfl) rfl (by decide)
theorem E4:aF Tryz.prog 61 zG:=lG Tryz.prog 61 [.val .str] [.val .bool]
noncomputable def Fw:aA:=⟨[.val .str],[.val .bool],fun x=>Kn x.1⟩
theorem PD:ay Tryz.prog 58:=au (fn:=Tryz.f58) (by kernel_rfl) rfl (by decide)
theorem PR:aF Tryz.prog 58 Fw:=lG Tryz.prog 58 [.val .str] [.val .bool]
noncomputable def GO:aA:=⟨[.val .str],[.val .bool],fun x=>Lj x.1⟩
theorem Ro:ay Tryz.prog 126:=au (fn:=Tryz.f126) (by kernel_rfl) rfl (by decide)
theorem RN:aF Tryz.prog 126 GO:=lG Tryz.prog 126 [.val .str] [.val .bool]
noncomputable def Fx:aA:=⟨[.val tI,.val tI],[.val .str],fun x=>Ko x.1 x.2.1⟩
theorem PE:ay Tryz.prog 60:=au (fn:=Tryz.f60) (by kernel_rfl) rfl (by decide)
theorem PS:aF Tryz.prog 60 Fx:=lG Tryz.prog 60 [.val tI,.val tI] [.val .str]
noncomputable def GP:aA:=⟨[.val .str,.val .bool],[.val .bool],fun x=>Fk x.1 x.2.1⟩
theorem Rt:ay Tryz.prog 141:=au (fn:=Tryz.f141) (by kernel_rfl) rfl (by decide)
theorem RS:aF Tryz.prog 141 GP:=lG Tryz.prog 141 [.val .str,.val .bool] [.val .bool]
noncomputable def GQ:aA:=⟨[.val .str,.val tI],[.val tI],fun x=>MU x.1 x.2.1⟩
theorem Ru:ay Tryz.prog 142:=au (fn:=Tryz.f142) (by kernel_rfl) rfl (by decide)
theorem RT:aF Tryz.prog 142 GQ:=lG Tryz.prog 142 [.val .str,.val tI] [.val tI]
noncomputable def IT:aA:=⟨[.val .str],[.val (.int .u8)],fun x=>ON x.1⟩
theorem Tz:ay Tryz.prog 144:=au (fn:=Tryz.f144) (by kernel_rfl) rfl (by decide)
theorem TY:aF Tryz.prog 144 IT:=lG Tryz.prog 144 [.val .str] [.val (.int .u8)]
noncomputable def M0:aA:=⟨[.val .str],[.val .str],fun x=>U7 x.1⟩
theorem XA:ay Tryz.prog 143:=au (fn:=Tryz.f143) (by kernel_rfl) rfl (by decide)
theorem Ya:aF Tryz.prog 143 M0:=lG Tryz.prog 143 [.val .str] [.val .str]
end Go.Proofs.SeatU
set_option maxRecDepth 100000
namespace Go.Proofs
open Go.Shelf
def Tryz.V3:Go.Shelf.Ren:=⟨fun | 21=>176 | 27=>202 | 28=>203 | 35=>219 | 39=>225 | n=>n,fun | 22=>45 | 3=>3 | 4=>4 | 0=>0 | n=>n,fun | n=>n⟩
theorem Tryz.acv:Go.Proofs.Lays2.n21 Tryz.prog Tryz.V3:={
 mixed:=by kernel_rfl
 f21:=Tryz.func176.trans (congrArg some (by kernel_rfl))
 f27:=Tryz.func202.trans (congrArg some (by kernel_rfl))
 f28:=Tryz.func203.trans (congrArg some (by kernel_rfl))
 f35:=Tryz.func219.trans (congrArg some (by kernel_rfl))
 f39:=Tryz.func225.trans (congrArg some (by kernel_rfl))
 t0:=Tryz.underlying0
 a0:=Tryz.isAgg0
 z0:=Tryz.sizeOf0
 v0:=Tryz.zeroValue0
 t3:=Tryz.underlying3
 a3:=Tryz.isAgg3
 z3:=Tryz.sizeOf3
 v3:=Tryz.zeroValue3
 t4:=Tryz.underlying4
 a4:=Tryz.isAgg4
 z4:=Tryz.sizeOf4
 v4:=Tryz.zeroValue4
 t22:=Tryz.underlying45
 a22:=Tryz.isAgg45
 z22:=Tryz.sizeOf45
 v22:=Tryz.zeroValue45
 i3:=by kernel_rfl }
def Tryz.Lc:Go.Shelf.Ren:=⟨fun | 6=>42 | 15=>105 | 14=>104 | 28=>165 | 29=>166 | 20=>157 | 21=>158 | 22=>159 | 23=>160 | 24=>161 | 25=>162 | 26=>163 | 27=>164 | 46=>197 | 47=>198 | 48=>199 | 49=>200 | 50=>201 | 57=>218 | n=>n,fun | 22=>23 | 24=>57 | 25=>83 | 3=>3 | 39=>105 | 0=>0 | 53=>146 | 55=>145 | 4=>4 | 46=>193 | 45=>192 | 50=>36 | 5=>5 | 9=>9 | 66=>223 | 70=>227 | 76=>242 | 77=>243 | n=>n,fun | n=>n⟩
theorem Tryz.Sf:Go.Proofs.SlLaysF0.n6 Tryz.prog Tryz.Lc:={
 mixed:=by kernel_rfl
 f6:=⟨Tryz.f42.name,by decide,Tryz.func42.trans (congrArg some (by kernel_rfl))⟩
 f14:=⟨Tryz.f104.name,by decide,Tryz.func104.trans (congrArg some (by kernel_rfl))⟩
 f15:=Tryz.func105.trans (congrArg some (by kernel_rfl))
 f20:=⟨Tryz.f157.name,by decide,Tryz.func157.trans (congrArg some (by kernel_rfl))⟩
 f21:=⟨Tryz.f158.name,by decide,Tryz.func158.trans (congrArg some (by kernel_rfl))⟩
 f22:=⟨Tryz.f159.name,by decide,Tryz.func159.trans (congrArg some (by kernel_rfl))⟩
 f23:=⟨Tryz.f160.name,by decide,Tryz.func160.trans (congrArg some (by kernel_rfl))⟩
 f24:=⟨Tryz.f161.name,by decide,Tryz.func161.trans (congrArg some (by kernel_rfl))⟩
 f25:=⟨Tryz.f162.name,by decide,Tryz.func162.trans (congrArg some (by kernel_rfl))⟩
 f26:=⟨Tryz.f163.name,by decide,Tryz.func163.trans (congrArg some (by kernel_rfl))⟩
 f27:=⟨Tryz.f164.name,by decide,Tryz.func164.trans (congrArg some (by kernel_rfl))⟩
 f28:=Tryz.func165.trans (congrArg some (by kernel_rfl))
 f29:=Tryz.func166.trans (congrArg some (by kernel_rfl))
 f46:=⟨Tryz.f197.name,by decide,Tryz.func197.trans (congrArg some (by kernel_rfl))⟩
 f47:=Tryz.func198.trans (congrArg some (by kernel_rfl))
 f48:=Tryz.func199.trans (congrArg some (by kernel_rfl))
 f49:=⟨Tryz.f200.name,by decide,Tryz.func200.trans (congrArg some (by kernel_rfl))⟩
 f50:=⟨Tryz.f201.name,by decide,Tryz.func201.trans (congrArg some (by kernel_rfl))⟩
 f57:=⟨Tryz.f218.name,by decide,Tryz.func218.trans (congrArg some (by kernel_rfl))⟩
 t0:=Tryz.underlying0
 a0:=Tryz.isAgg0
 z0:=Tryz.sizeOf0
 v0:=Tryz.zeroValue0
 t3:=Tryz.underlying3
 a3:=Tryz.isAgg3
 z3:=Tryz.sizeOf3
 v3:=Tryz.zeroValue3
 t4:=Tryz.underlying4
 a4:=Tryz.isAgg4
 z4:=Tryz.sizeOf4
 v4:=Tryz.zeroValue4
 t5:=Tryz.underlying5
 a5:=Tryz.isAgg5
 z5:=Tryz.sizeOf5
 v5:=Tryz.zeroValue5
 t9:=Tryz.underlying9
 a9:=Tryz.isAgg9
 z9:=Tryz.sizeOf9
 v9:=Tryz.zeroValue9
 t22:=Tryz.underlying23
 a22:=Tryz.isAgg23
 z22:=Tryz.sizeOf23
 v22:=Tryz.zeroValue23
 t25:=Tryz.underlying83
 a25:=Tryz.isAgg83
 z25:=Tryz.sizeOf83
 v25:=Tryz.zeroValue83
 t39:=Tryz.underlying105
 a39:=Tryz.isAgg105
 z39:=Tryz.sizeOf105
 v39:=Tryz.zeroValue105
 t45:=Tryz.underlying192
 a45:=Tryz.isAgg192
 z45:=Tryz.sizeOf192
 v45:=Tryz.zeroValue192
 t46:=Tryz.underlying193
 a46:=Tryz.isAgg193
 z46:=Tryz.sizeOf193
 v46:=Tryz.zeroValue193
 t50:=Tryz.underlying36
 a50:=Tryz.isAgg36
 z50:=Tryz.sizeOf36
 v50:=Tryz.zeroValue36
 t53:=Tryz.underlying146
 a53:=Tryz.isAgg146
 z53:=Tryz.sizeOf146
 v53:=Tryz.zeroValue146
 t55:=Tryz.underlying145
 a55:=Tryz.isAgg145
 z55:=Tryz.sizeOf145
 v55:=Tryz.zeroValue145
 t66:=Tryz.underlying223
 a66:=Tryz.isAgg223
 z66:=Tryz.sizeOf223
 v66:=Tryz.zeroValue223
 t70:=Tryz.underlying227
 a70:=Tryz.isAgg227
 z70:=Tryz.sizeOf227
 v70:=Tryz.zeroValue227
 t76:=Tryz.underlying242
 a76:=Tryz.isAgg242
 z76:=Tryz.sizeOf242
 v76:=Tryz.zeroValue242
 t77:=Tryz.underlying243
 a77:=Tryz.isAgg243
 z77:=Tryz.sizeOf243
 v77:=Tryz.zeroValue243 }
end Go.Proofs
namespace Go.Proofs.SeatU
open Go.Dn Go.Md Go.Proofs Go.RowKit Go.Shelf Go.Lib Go.Sort
theorem MK {G:Gh} {x:aa} {a:List Value} (h:aN G an x a):∃ r:List Value,r.length=4∧a= .string (bs x.1)::r:=by
 have hlen:=aN.len h
 obtain⟨c1,r1,e1,h1,_⟩:=h
 have g1:c1=[.string (bs x.1)]:=h1
 subst g1;subst e1
 refine⟨r1, ?_,rfl⟩
 have:(Ty.size an)=5:=rfl
 simp at hlen
 omega
theorem aaD (s c:List UInt8) (p q:List Value) (hp:p.length=4) (hq:q.length=4) (w:World):
 Calls Tryz.prog 43 #[.agg (.string (bs s)::p).toArray,.agg (.string (bs c)::q).toArray] w fun e w'=>e= .returned (.int .i64 (Lib.compareBytes s c))∧∃ q os,w'=grow (w.drewN q) os:=by
 have mixed:Tryz.prog.follows .mixedOrders=true:=by kernel_rfl
 have aP:=Tryz.isAgg57;have zP:=Tryz.sizeOf57
 obtain⟨p1,p2,p3,p4,rfl⟩:∃ p1 p2 p3 p4,p=[p1,p2,p3,p4]:=by
  match p,hp with
  | [p1,p2,p3,p4],_=>exact⟨p1,p2,p3,p4,rfl⟩
 obtain⟨q1,q2,q3,q4,rfl⟩:∃ q1 q2 q3 q4,q=[q1,q2,q3,q4]:=by
  match q,hq with
  | [q1,q2,q3,q4],_=>exact⟨q1,q2,q3,q4,rfl⟩
 have hcmp:∀ w,Calls Tryz.prog 44 #[.string (bs s),.string (bs c)] w fun e w'=>e= .returned (.int .i64 (Lib.compareBytes s c))∧w'=w:=fun w=>by
  have:=Any.strings_Compare Tryz.Z6 (bs s) (bs c) w
  change Calls Tryz.prog 44 _ _ _ at this
  simpa [bs] using this
 go_enter Tryz.func43,Tryz.ntmps43
 go_wp2_with (go_at_fn 44;refine (hcmp _).mono ?_;rintro e w' ⟨rfl,rfl⟩)
 all_goals (refine (hcmp _).mono ?_;rintro e w2 ⟨rfl,rfl⟩)
 all_goals go_wp2
 all_goals go_ret
 refine⟨rfl,0,_,by rw[alloc_eq_grow,alloc_eq_grow,grow_grow];rfl⟩
theorem agd:SWO (ltOf fun a b:aa=>Lib.compareBytes a.1 b.1):=by
 have key:∀ a b:aa,ltOf (fun a b:aa=>Lib.compareBytes a.1 b.1) a b=Op.bytesLess a.1 b.1:=fun a b=>by
  show decide (Lib.compareBytes a.1 b.1<0)=_
  rw[Bool.eq_iff_iff,decide_eq_true_iff,sr]
 refine⟨fun x=> ?_,fun x y z h1 h2=> ?_,fun x y z h1 h2=> ?_⟩
 ·rw[key];exact b7 _
 ·rw[key] at *;exact gL h1 h2
 ·rw[key] at*
  cases h:Op.bytesLess x.1 z.1 with
  | false=>rfl
  | true=>
   rcases oI x.1 y.1 with g | g | g
   ·rw[g] at h1;cases h1
   ·rw[g] at h;rw[h] at h2;cases h2
   ·have:=gL g h;rw[this] at h2;cases h2
theorem abR:Sp Tryz.prog 43 an (fun _=>true) (fun a b=>Lib.compareBytes a.1 b.1):=by
 intro G x y a b ha hb _ _ w
 obtain⟨p,hp,rfl⟩:=MK ha
 obtain⟨q,hq,rfl⟩:=MK hb
 exact aaD _ _ p q hp hq w
noncomputable def qy:aA:=Yx 57 an 43 (fun _=>true) (fun a b=>Lib.compareBytes a.1 b.1)
theorem BH:ay Tryz.prog 42:=au (fn:=Tryz.f42) (by kernel_rfl) rfl (by decide)
theorem BK:aF Tryz.prog 42 qy:=aed Tryz.Sf (t:=an) Tryz.isAgg57 Tryz.sizeOf57 agd abR (enters_of Tryz.func43 (by kernel_rfl) rfl)
end Go.Proofs.SeatU
namespace Go.Proofs.SeatU
open Go.Dn Go.Md Go.Proofs Go.RowKit Go.Shelf Go.Lib Go.Sort
def Bw:aA:=Rz 3
theorem Jv:ay Tryz.prog 176:=au (fn:=Tryz.f176) (by kernel_rfl) rfl (by decide)
theorem JQ:aF Tryz.prog 176 Bw:=VY Tryz.acv
def Di:Ren:=⟨fun | 22=>121 | 29=>177 | 30=>178 | n=>n,fun | 24=>23 | 9=>57 | n=>n,fun n=>n⟩
theorem TG:BM Tryz.prog Di 5 72 (.agg #[.string ⟨#[]⟩,.string ⟨#[]⟩,.int .i64 0,.int .i64 0,.slice none 0 0]):={
 mixed:=by kernel_rfl
 f22:=⟨_,by decide,Tryz.func121.trans (congrArg some (by kernel_rfl:Tryz.f121={ Body2.n22 Di with name:= "slices.Insert[[]interchange/api.Parcel,interchange/api.Parcel]" }))⟩
 f29:=⟨Tryz.f177,by kernel_rfl,by kernel_rfl,by kernel_rfl,by kernel_rfl,by kernel_rfl⟩
 t0:=Tryz.underlying0
 a0:=Tryz.isAgg0
 z0:=Tryz.sizeOf0
 v0:=Tryz.zeroValue0
 t3:=Tryz.underlying3
 a3:=Tryz.isAgg3
 z3:=Tryz.sizeOf3
 v3:=Tryz.zeroValue3
 t4:=Tryz.underlying4
 a4:=Tryz.isAgg4
 z4:=Tryz.sizeOf4
 v4:=Tryz.zeroValue4
 z9:=Tryz.sizeOf57
 t24:=Tryz.underlying23
 a24:=Tryz.isAgg23
 z24:=Tryz.sizeOf23
 v24:=Tryz.zeroValue23
 i9:=by kernel_rfl
 k0:=by decide
 zc:=rfl }
def rY:aA:=⟨[.row 57 an,.val tI,.val (.slice an)],[.row 57 an],fun x=>nH x.1 x.2.1 x.2.2.1⟩
theorem De:ay Tryz.prog 121:=au (fn:=Tryz.f121) (by kernel_rfl) rfl (by decide)
theorem Dw:aF Tryz.prog 121 rY:=aaX (t:=an) TG
end Go.Proofs.SeatU
