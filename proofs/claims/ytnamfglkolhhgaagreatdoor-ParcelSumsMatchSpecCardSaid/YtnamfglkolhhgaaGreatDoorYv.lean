/-
  Functions of the library by contracts. No condition.
-/
import Derived.Test.YtnamfglkolhhgaaGreatDoorYo
import Derived.Test.YtnamfglkolhhgaaGreatDoorYd
import Derived.Test.YtnamfglkolhhgaaGreatDoorProg
import Derived.Shelf.LaysM
import Derived.Shelf.Strings.SlTrimAscii
import Derived.Shelf.Small.Strs
import Derived.Shelf.Strconv.Itoa3
import Derived.Shelf.Strings.Repeat
set_option linter.all false
namespace Go.Proofs
open Go.Shelf
def Tryz.Th:Go.Shelf.Ren:=⟨fun | 160=>56 | 232=>105 | 231=>104 | 227=>106 | 234=>108 | 233=>107 | 236=>110 | 235=>109 | 228=>149 | 271=>152 | 151=>151 | 197=>150 | 120=>195 | 152=>194 | 260=>193 | 137=>211 | 119=>212 | 224=>213 | 225=>214 | 217=>221 | 266=>224 | n=>n,fun | 9=>9 | 4=>4 | 3=>3 | 5=>5 | 117=>159 | 116=>158 | 0=>0 | 124=>162 | 21=>21 | 105=>195 | 46=>137 | 119=>244 | 139=>247 | 138=>246 | n=>n,fun | 3=>1 | 4=>2 | n=>n⟩
theorem Tryz.X4:Go.Proofs.Lays.n160 Tryz.prog Tryz.Th:={
 mixed:=by kernel_rfl
 f119:=Tryz.func212.trans (congrArg some (by kernel_rfl))
 f120:=Tryz.func195.trans (congrArg some (by kernel_rfl))
 f137:=Tryz.func211.trans (congrArg some (by kernel_rfl))
 f151:=Tryz.func151.trans (congrArg some (by kernel_rfl))
 f152:=Tryz.func194.trans (congrArg some (by kernel_rfl))
 f160:=Tryz.func56.trans (congrArg some (by kernel_rfl))
 f197:=Tryz.func150.trans (congrArg some (by kernel_rfl))
 f217:=Tryz.func221.trans (congrArg some (by kernel_rfl))
 f224:=Tryz.func213.trans (congrArg some (by kernel_rfl))
 f225:=Tryz.func214.trans (congrArg some (by kernel_rfl))
 f227:=Tryz.func106.trans (congrArg some (by kernel_rfl))
 f228:=Tryz.func149.trans (congrArg some (by kernel_rfl))
 f231:=Tryz.func104.trans (congrArg some (by kernel_rfl))
 f232:=Tryz.func105.trans (congrArg some (by kernel_rfl))
 f233:=Tryz.func107.trans (congrArg some (by kernel_rfl))
 f234:=Tryz.func108.trans (congrArg some (by kernel_rfl))
 f235:=Tryz.func109.trans (congrArg some (by kernel_rfl))
 f236:=Tryz.func110.trans (congrArg some (by kernel_rfl))
 f260:=Tryz.func193.trans (congrArg some (by kernel_rfl))
 f266:=Tryz.func224.trans (congrArg some (by kernel_rfl))
 f271:=Tryz.func152.trans (congrArg some (by kernel_rfl))
 t0:=Tryz.underlying0
 a0:=Tryz.isAgg0
 z0:=Tryz.sizeOf0
 v0:=Tryz.zeroValue0
 t3:=Tryz.underlying3
 a3:=Tryz.isAgg3
 z3:=Tryz.sizeOf3
 v3:=Tryz.zeroValue3
 t4:=Tryz.underlying4
 a4:=Tryz.isAgg4
 z4:=Tryz.sizeOf4
 v4:=Tryz.zeroValue4
 t5:=Tryz.underlying5
 a5:=Tryz.isAgg5
 z5:=Tryz.sizeOf5
 v5:=Tryz.zeroValue5
 t9:=Tryz.underlying9
 a9:=Tryz.isAgg9
 z9:=Tryz.sizeOf9
 v9:=Tryz.zeroValue9
 t21:=Tryz.underlying21
 a21:=Tryz.isAgg21
 z21:=Tryz.sizeOf21
 v21:=Tryz.zeroValue21
 t46:=Tryz.underlying137
 a46:=Tryz.isAgg137
 z46:=Tryz.sizeOf137
 v46:=Tryz.zeroValue137
 t105:=Tryz.underlying195
 a105:=Tryz.isAgg195
 z105:=Tryz.sizeOf195
 v105:=Tryz.zeroValue195
 t116:=Tryz.underlying158
 a116:=Tryz.isAgg158
 z116:=Tryz.sizeOf158
 t117:=Tryz.underlying159
 a117:=Tryz.isAgg159
 z117:=Tryz.sizeOf159
 v117:=Tryz.zeroValue159
 t119:=Tryz.underlying244
 a119:=Tryz.isAgg244
 z119:=Tryz.sizeOf244
 t124:=Tryz.underlying162
 a124:=Tryz.isAgg162
 z124:=Tryz.sizeOf162
 v124:=Tryz.zeroValue162
 t138:=Tryz.underlying246
 a138:=Tryz.isAgg246
 z138:=Tryz.sizeOf246
 v138:=Tryz.zeroValue246
 t139:=Tryz.underlying247
 a139:=Tryz.isAgg247
 z139:=Tryz.sizeOf247
 v139:=Tryz.zeroValue247
 g3:=by kernel_rfl
 g4:=by kernel_rfl }
def Tryz.Tg:Go.Shelf.Ren:=⟨fun | 106=>28 | 213=>60 | 265=>114 | n=>n,fun | 9=>9 | 3=>3 | n=>n,fun | n=>n⟩
theorem Tryz.Nk:Go.Proofs.Lays.n106 Tryz.prog Tryz.Tg:={
 mixed:=by kernel_rfl
 f106:=Tryz.func28.trans (congrArg some (by kernel_rfl))
 f213:=Tryz.func60.trans (congrArg some (by kernel_rfl))
 f265:=Tryz.func114.trans (congrArg some (by kernel_rfl))
 t3:=Tryz.underlying3
 a3:=Tryz.isAgg3
 z3:=Tryz.sizeOf3
 v3:=Tryz.zeroValue3
 t9:=Tryz.underlying9
 a9:=Tryz.isAgg9
 z9:=Tryz.sizeOf9
 v9:=Tryz.zeroValue9 }
def Tryz.Rv:Go.Shelf.Ren:=⟨fun | 171=>69 | 243=>123 | 246=>165 | 283=>201 | 284=>202 | 285=>203 | 286=>204 | 129=>162 | 317=>216 | 318=>217 | 319=>218 | 320=>219 | 337=>222 | 338=>223 | n=>n,fun | 3=>3 | 9=>9 | 2=>2 | 4=>4 | 171=>235 | 0=>0 | 53=>134 | 37=>180 | 5=>5 | 173=>237 | 212=>254 | 51=>136 | 20=>20 | 213=>255 | 46=>137 | 232=>257 | 233=>258 | n=>n,fun | 17=>3 | 18=>4 | 19=>5 | n=>n⟩
theorem Tryz.Xa:Go.Proofs.LaysM.n171 Tryz.prog Tryz.Rv:={
 mixed:=by kernel_rfl
 f129:=Tryz.func162.trans (congrArg some (by kernel_rfl))
 f171:=Tryz.func69.trans (congrArg some (by kernel_rfl))
 f243:=Tryz.func123.trans (congrArg some (by kernel_rfl))
 f246:=Tryz.func165.trans (congrArg some (by kernel_rfl))
 f283:=Tryz.func201.trans (congrArg some (by kernel_rfl))
 f284:=Tryz.func202.trans (congrArg some (by kernel_rfl))
 f285:=Tryz.func203.trans (congrArg some (by kernel_rfl))
 f286:=Tryz.func204.trans (congrArg some (by kernel_rfl))
 f317:=Tryz.func216.trans (congrArg some (by kernel_rfl))
 f318:=Tryz.func217.trans (congrArg some (by kernel_rfl))
 f319:=Tryz.func218.trans (congrArg some (by kernel_rfl))
 f320:=Tryz.func219.trans (congrArg some (by kernel_rfl))
 f337:=Tryz.func222.trans (congrArg some (by kernel_rfl))
 f338:=Tryz.func223.trans (congrArg some (by kernel_rfl))
 t0:=Tryz.underlying0
 a0:=Tryz.isAgg0
 z0:=Tryz.sizeOf0
 v0:=Tryz.zeroValue0
 t2:=Tryz.underlying2
 a2:=Tryz.isAgg2
 z2:=Tryz.sizeOf2
 v2:=Tryz.zeroValue2
 t3:=Tryz.underlying3
 a3:=Tryz.isAgg3
 z3:=Tryz.sizeOf3
 v3:=Tryz.zeroValue3
 t4:=Tryz.underlying4
 a4:=Tryz.isAgg4
 z4:=Tryz.sizeOf4
 v4:=Tryz.zeroValue4
 t5:=Tryz.underlying5
 a5:=Tryz.isAgg5
 z5:=Tryz.sizeOf5
 v5:=Tryz.zeroValue5
 t9:=Tryz.underlying9
 a9:=Tryz.isAgg9
 z9:=Tryz.sizeOf9
 v9:=Tryz.zeroValue9
 t20:=Tryz.underlying20
 a20:=Tryz.isAgg20
 z20:=Tryz.sizeOf20
 v20:=Tryz.zeroValue20
 t37:=Tryz.underlying180
 a37:=Tryz.isAgg180
 z37:=Tryz.sizeOf180
 v37:=Tryz.zeroValue180
 t46:=Tryz.underlying137
 a46:=Tryz.isAgg137
 z46:=Tryz.sizeOf137
 v46:=Tryz.zeroValue137
 t51:=Tryz.underlying136
 a51:=Tryz.isAgg136
 z51:=Tryz.sizeOf136
 v51:=Tryz.zeroValue136
 t53:=Tryz.underlying134
 a53:=Tryz.isAgg134
 z53:=Tryz.sizeOf134
 v53:=Tryz.zeroValue134
 t171:=Tryz.underlying235
 a171:=Tryz.isAgg235
 z171:=Tryz.sizeOf235
 v171:=Tryz.zeroValue235
 t173:=Tryz.underlying237
 a173:=Tryz.isAgg237
 z173:=Tryz.sizeOf237
 v173:=Tryz.zeroValue237
 t212:=Tryz.underlying254
 a212:=Tryz.isAgg254
 z212:=Tryz.sizeOf254
 v212:=Tryz.zeroValue254
 t213:=Tryz.underlying255
 a213:=Tryz.isAgg255
 z213:=Tryz.sizeOf255
 t232:=Tryz.underlying257
 a232:=Tryz.isAgg257
 z232:=Tryz.sizeOf257
 v232:=Tryz.zeroValue257
 t233:=Tryz.underlying258
 a233:=Tryz.isAgg258
 z233:=Tryz.sizeOf258
 v233:=Tryz.zeroValue258
 g17:=by kernel_rfl
 g18:=by kernel_rfl
 g19:=by kernel_rfl
 i0:=by kernel_rfl
 i2:=by kernel_rfl
 i3:=by kernel_rfl
 i4:=by kernel_rfl
 i5:=by kernel_rfl
 i9:=by kernel_rfl
 i20:=by kernel_rfl
 i37:=by kernel_rfl
 i46:=by kernel_rfl
 i51:=by kernel_rfl
 i53:=by kernel_rfl
 i171:=by kernel_rfl
 i173:=by kernel_rfl
 i212:=by kernel_rfl
 i232:=by kernel_rfl
 i233:=by kernel_rfl
 m17:=by kernel_rfl
 m18:=by kernel_rfl
 m19:=by kernel_rfl }
def Tryz.Jk:Go.Shelf.Ren:=⟨fun | 105=>71 | 212=>130 | 99=>131 | 165=>132 | 166=>133 | 170=>134 | 169=>135 | 263=>171 | 264=>172 | 206=>173 | 240=>174 | 241=>175 | 276=>206 | 277=>207 | n=>n,fun | 9=>9 | 3=>3 | 4=>4 | 20=>20 | 0=>0 | 46=>137 | 109=>176 | 5=>5 | 72=>182 | 76=>186 | 51=>136 | 146=>211 | 53=>134 | 148=>213 | 70=>179 | 37=>180 | 75=>185 | 127=>215 | 164=>239 | 80=>188 | n=>n,fun | n=>n⟩
theorem Tryz.X3:Go.Proofs.Lays.n105 Tryz.prog Tryz.Jk:={
 mixed:=by kernel_rfl
 f99:=Tryz.func131.trans (congrArg some (by kernel_rfl))
 f105:=Tryz.func71.trans (congrArg some (by kernel_rfl))
 f165:=Tryz.func132.trans (congrArg some (by kernel_rfl))
 f166:=Tryz.func133.trans (congrArg some (by kernel_rfl))
 f169:=Tryz.func135.trans (congrArg some (by kernel_rfl))
 f170:=Tryz.func134.trans (congrArg some (by kernel_rfl))
 f206:=Tryz.func173.trans (congrArg some (by kernel_rfl))
 f212:=Tryz.func130.trans (congrArg some (by kernel_rfl))
 f240:=Tryz.func174.trans (congrArg some (by kernel_rfl))
 f241:=Tryz.func175.trans (congrArg some (by kernel_rfl))
 f263:=Tryz.func171.trans (congrArg some (by kernel_rfl))
 f264:=Tryz.func172.trans (congrArg some (by kernel_rfl))
 f276:=Tryz.func206.trans (congrArg some (by kernel_rfl))
 f277:=Tryz.func207.trans (congrArg some (by kernel_rfl))
 t0:=Tryz.underlying0
 a0:=Tryz.isAgg0
 z0:=Tryz.sizeOf0
 v0:=Tryz.zeroValue0
 t3:=Tryz.underlying3
 a3:=Tryz.isAgg3
 z3:=Tryz.sizeOf3
 v3:=Tryz.zeroValue3
 t4:=Tryz.underlying4
 a4:=Tryz.isAgg4
 z4:=Tryz.sizeOf4
 v4:=Tryz.zeroValue4
 t5:=Tryz.underlying5
 a5:=Tryz.isAgg5
 z5:=Tryz.sizeOf5
 v5:=Tryz.zeroValue5
 t9:=Tryz.underlying9
 a9:=Tryz.isAgg9
 z9:=Tryz.sizeOf9
 v9:=Tryz.zeroValue9
 t20:=Tryz.underlying20
 a20:=Tryz.isAgg20
 z20:=Tryz.sizeOf20
 v20:=Tryz.zeroValue20
 t37:=Tryz.underlying180
 a37:=Tryz.isAgg180
 z37:=Tryz.sizeOf180
 v37:=Tryz.zeroValue180
 t46:=Tryz.underlying137
 a46:=Tryz.isAgg137
 z46:=Tryz.sizeOf137
 v46:=Tryz.zeroValue137
 t51:=Tryz.underlying136
 a51:=Tryz.isAgg136
 z51:=Tryz.sizeOf136
 v51:=Tryz.zeroValue136
 t53:=Tryz.underlying134
 a53:=Tryz.isAgg134
 z53:=Tryz.sizeOf134
 v53:=Tryz.zeroValue134
 t70:=Tryz.underlying179
 a70:=Tryz.isAgg179
 z70:=Tryz.sizeOf179
 v70:=Tryz.zeroValue179
 t72:=Tryz.underlying182
 a72:=Tryz.isAgg182
 z72:=Tryz.sizeOf182
 v72:=Tryz.zeroValue182
 t75:=Tryz.underlying185
 a75:=Tryz.isAgg185
 z75:=Tryz.sizeOf185
 v75:=Tryz.zeroValue185
 t76:=Tryz.underlying186
 a76:=Tryz.isAgg186
 z76:=Tryz.sizeOf186
 v76:=Tryz.zeroValue186
 t109:=Tryz.underlying176
 a109:=Tryz.isAgg176
 z109:=Tryz.sizeOf176
 v109:=Tryz.zeroValue176
 t127:=Tryz.underlying215
 a127:=Tryz.isAgg215
 z127:=Tryz.sizeOf215
 v127:=Tryz.zeroValue215
 t146:=Tryz.underlying211
 a146:=Tryz.isAgg211
 z146:=Tryz.sizeOf211
 v146:=Tryz.zeroValue211
 t148:=Tryz.underlying213
 a148:=Tryz.isAgg213
 z148:=Tryz.sizeOf213
 v148:=Tryz.zeroValue213
 t164:=Tryz.underlying239
 a164:=Tryz.isAgg239
 z164:=Tryz.sizeOf239
 v164:=Tryz.zeroValue239 }
end Go.Proofs
namespace Go.Proofs
theorem Tryz.Iq:Builder.Extra Tryz.prog Tryz.Jk:={
 sizeBuilder:=by kernel_rfl
 liesBuilder:=by kernel_rfl
 t5:=Tryz.underlying5
 a5:=Tryz.isAgg5
 z5:=Tryz.sizeOf5
 v5:=Tryz.zeroValue5
 infoByte:=by kernel_rfl
 cellsByte:=by kernel_rfl
 sizeByte:=by kernel_rfl
 neB5:=by decide }
end Go.Proofs
namespace Go.Proofs.SeatU
open Go.Dn Go.Md Go.Proofs Go.RowKit Go.Shelf Go.Lib
def vK:ay:=⟨[.val .str,.val .str],[.val .str],fun x=>iA x.1 x.2.1⟩
theorem Lx:aq Tryz.prog 56:=aj (fn:=Tryz.f56) (by kernel_rfl) rfl (by decide)
theorem LX:aD Tryz.prog 56 vK:=by
 intro G w ow args x y hG how ha hm
 refine S7 (P:=Tryz.prog) (f:=56) (m:=vK.m) ?_ G w ow args x y hG how ha hm
 intro s c r w hm
 replace hm:iA s c=some (r,()):=hm
 unfold iA at hm
 cases hb:(decide (s.length≤9223372036854775807)&&(decide (c.length<4294967281)&&c.all fun b=>decide (b.toNat<128))) with
 | false=>rw[hb] at hm;cases hm
 | true=>
  rw[hb] at hm
  simp only[cond_true,Option.some.injEq,Prod.mk.injEq,and_true] at hm
  subst hm
  simp only[Bool.and_eq_true,decide_eq_true_eq,List.all_eq_true] at hb
  have:=Any.strings_Trim_laid Tryz.X4 (by kernel_rfl) (bs s) (bs c) w (by simpa [bs,ByteArray.size] using hb.1) (by simpa [bs,ByteArray.size] using hb.2.1) (fun j b hj=>hb.2.2 b (List.mem_of_getElem? (by simpa [bs] using hj)))
  change Calls Tryz.prog 56 _ _ _ at this
  simpa [bs] using this
def iy:ay:=⟨[.val .str,.val .str],[.val tI],fun x=>strings_Compare x.1 x.2.1⟩
theorem qd:aq Tryz.prog 28:=aj (fn:=Tryz.f28) (by kernel_rfl) rfl (by decide)
theorem qm:aD Tryz.prog 28 iy:=by
 intro G w ow args x y hG how ha hm
 refine VP (P:=Tryz.prog) (f:=28) (t:=tI) (m:=iy.m) ?_ G w ow args x y hG how ha hm
 intro s c r w hm
 replace hm:strings_Compare s c=some (r,()):=hm
 unfold strings_Compare at hm
 obtain rfl:Lib.compareBytes s c=r:=congrArg (fun o=>(Option.getD o (0,())).1) hm
 have:=Any.strings_Compare Tryz.Nk (bs s) (bs c) w
 refine⟨.int .i64 (Lib.compareBytes s c),fun G=> ?_,this.mono ?_⟩
 ·rfl
 ·rintro e w' ⟨he,rfl⟩
  exact⟨he,Below.refl _ _⟩
theorem XP (n:Nat) (h:n<100):Lib.decDigits n=WR n:=by
 unfold WR
 rw[Lib.decDigits]
 by_cases h1:n<10
 ·simp[h1]
 ·rw[dif_neg h1,Lib.decDigits,dif_pos (by omega),if_neg h1];rfl
def pT:ay:=⟨[.val tI],[.val .str],fun x=>strconv_Itoa x.1⟩
theorem BY:aq Tryz.prog 69:=aj (fn:=Tryz.f69) (by kernel_rfl) rfl (by decide)
theorem B5:aD Tryz.prog 69 pT:=by
 intro G w ow args x y hG how ha hm
 refine Q6 (P:=Tryz.prog) (f:=69) (a:=tI) (t:= .str) (m:=pT.m) (g:=3) (by kernel_rfl) rfl ?_ G w ow args x y hG how ha hm
 intro (n:Int) (r:List UInt8) w htab hm
 replace hm:strconv_Itoa n=some (r,()):=hm
 unfold strconv_Itoa at hm
 have fin: -9223372036854775808≤n→n≤9223372036854775807→Lib.itoa n=r→∃ v,(∀ G:Gh,bL G .str r v)∧Calls Tryz.prog 69 #[Er tI n] w fun e w'=>e= .returned v∧RowKit.Below w.heap.size w w':=by
  intro h0 h1 e
  subst e
  have:=Any.strconv_Itoa Tryz.Xa n h0 h1 w htab
  refine⟨.string (bs (Lib.itoa n)),fun G=>rfl,this.mono ?_⟩
  rintro e w' ⟨he,k,os,rfl⟩
  exact⟨he,Sz w k os⟩
 cases hb:(decide (0≤n)&&decide (n<100)) with
 | true=>
  rw[hb] at hm
  simp only[cond_true,Option.some.injEq,Prod.mk.injEq,and_true] at hm
  simp only[Bool.and_eq_true,decide_eq_true_eq] at hb
  obtain⟨k,rfl⟩:∃ k:Nat,n=k:=⟨n.toNat,by omega⟩
  refine fin (by omega) (by omega) ?_
  rw[← hm,Int.toNat_natCast, ← XP k (by omega)]
  rfl
 | false=>
  rw[hb,cond_false] at hm
  cases hc:(decide (-9223372036854775808≤n)&&decide (n≤9223372036854775807)) with
  | false=>rw[hc] at hm;cases hm
  | true=>
   rw[hc] at hm
   simp only[cond_true,Option.some.injEq,Prod.mk.injEq,and_true] at hm
   simp only[Bool.and_eq_true,decide_eq_true_eq] at hc
   exact fin hc.1 hc.2 hm
def rS:ay:=⟨[.val .str,.val tI],[.val .str],fun x=>strings_Repeat x.1 x.2.1⟩
theorem IU:aq Tryz.prog 71:=aj (fn:=Tryz.f71) (by kernel_rfl) rfl (by decide)
theorem I3:aD Tryz.prog 71 rS:=by
 intro G w ow args x y hG how ha hm
 refine S6 (P:=Tryz.prog) (f:=71) (a:= .str) (a':=tI) (t:= .str) (m:=rS.m) rfl rfl ?_ G w ow args x y hG how ha hm
 intro (s:List UInt8) (n:Int) (r:List UInt8) w hm
 replace hm:strings_Repeat s n=some (r,()):=hm
 unfold strings_Repeat at hm
 cases hb:(decide (0≤n)&&(decide (n≤9223372036854775807)&&decide (s.length*n.toNat≤140737488355328))) with
 | false=>rw[hb] at hm;cases hm
 | true=>
  rw[hb] at hm
  simp only[cond_true,Option.some.injEq,Prod.mk.injEq,and_true] at hm
  subst hm
  simp only[Bool.and_eq_true,decide_eq_true_eq] at hb
  obtain⟨k,rfl⟩:∃ k:Nat,n=k:=⟨n.toNat,by omega⟩
  have hsz:(bs s).size=s.length:=by simp[bs,ByteArray.size]
  have:=Any.strings_Repeat Tryz.X3 Tryz.Iq (bs s) k w (by omega) (by rw[hsz];simpa using hb.2.2)
  refine⟨.string (bs (Lib.repeatL s k)),fun G=>rfl,this.mono ?_⟩
  rintro e w' ⟨he,hbel⟩
  exact⟨he,hbel⟩
noncomputable def vD:ay:=⟨[.val .str],[.val tI],fun x=>zj x.1⟩
theorem Eg:aq Tryz.prog 126:=aj (fn:=Tryz.f126) (by kernel_rfl) rfl (by decide)
theorem Ez:aD Tryz.prog 126 vD:=gO Tryz.prog 126 [.val .str] [.val tI]
noncomputable def tU:ay:=⟨[.val .str],[.val .bool],fun x=>yH x.1⟩
theorem As:aq Tryz.prog 128:=aj (fn:=Tryz.f128) (by kernel_rfl) rfl (by decide)
theorem AG:aD Tryz.prog 128 tU:=gO Tryz.prog 128 [.val .str] [.val .bool]
noncomputable def Ba:ay:=⟨[.val .str],[.val .bool],fun x=>E8 x.1⟩
theorem J9:aq Tryz.prog 125:=aj (fn:=Tryz.f125) (by kernel_rfl) rfl (by decide)
theorem Ki:aD Tryz.prog 125 Ba:=gO Tryz.prog 125 [.val .str] [.val .bool]
noncomputable def Cc:ay:=⟨[.val .str],[.val .bool],fun x=>F0 x.1⟩
theorem Lt:aq Tryz.prog 168:=aj (fn:=Tryz.f168) (by kernel_rfl) rfl (by decide)
theorem LS:aD Tryz.prog 168 Cc:=gO Tryz.prog 168 [.val .str] [.val .bool]
noncomputable def Bb:ay:=⟨[.val tI,.val tI],[.val .str],fun x=>E9 x.1 x.2.1⟩
theorem Ka:aq Tryz.prog 127:=aj (fn:=Tryz.f127) (by kernel_rfl) rfl (by decide)
theorem Kj:aD Tryz.prog 127 Bb:=gO Tryz.prog 127 [.val tI,.val tI] [.val .str]
noncomputable def Cf:ay:=⟨[.val .str,.val .bool],[.val .bool],fun x=>A1 x.1 x.2.1⟩
theorem Lv:aq Tryz.prog 186:=aj (fn:=Tryz.f186) (by kernel_rfl) rfl (by decide)
theorem LV:aD Tryz.prog 186 Cf:=gO Tryz.prog 186 [.val .str,.val .bool] [.val .bool]
noncomputable def Cg:ay:=⟨[.val .str,.val tI],[.val tI],fun x=>HF x.1 x.2.1⟩
theorem Lw:aq Tryz.prog 187:=aj (fn:=Tryz.f187) (by kernel_rfl) rfl (by decide)
theorem LW:aD Tryz.prog 187 Cg:=gO Tryz.prog 187 [.val .str,.val tI] [.val tI]
noncomputable def DL:ay:=⟨[.val .str],[.val (.int .u8)],fun x=>Jv x.1⟩
theorem Na:aq Tryz.prog 189:=aj (fn:=Tryz.f189) (by kernel_rfl) rfl (by decide)
theorem NA:aD Tryz.prog 189 DL:=gO Tryz.prog 189 [.val .str] [.val (.int .u8)]
noncomputable def HL:ay:=⟨[.val .str],[.val .str],fun x=>OK x.1⟩
theorem Rj:aq Tryz.prog 188:=aj (fn:=Tryz.f188) (by kernel_rfl) rfl (by decide)
theorem RR:aD Tryz.prog 188 HL:=gO Tryz.prog 188 [.val .str] [.val .str]
end Go.Proofs.SeatU
