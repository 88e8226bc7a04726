/-
  Functions of the library by contracts. No condition.
-/
import Derived.Test.YtfghdjdpccoleabGreatDoorYo
import Derived.Test.YtfghdjdpccoleabGreatDoorYd
import Derived.Test.YtfghdjdpccoleabGreatDoorProg
import Derived.Shelf.LaysM
import Derived.Shelf.Strings.SlTrimAscii
import Derived.Shelf.Small.Strs
import Derived.Shelf.Strconv.Itoa3
import Derived.Shelf.Strings.Repeat
set_option linter.all false
namespace Go.Proofs
open Go.Shelf
def Tryz.Yy:Go.Shelf.Ren:=⟨fun | 160=>155 | 232=>194 | 231=>193 | 227=>195 | 234=>197 | 233=>196 | 236=>199 | 235=>198 | 228=>224 | 271=>227 | 151=>226 | 197=>225 | 120=>240 | 152=>239 | 260=>238 | 137=>245 | 119=>246 | 224=>247 | 225=>248 | 217=>249 | 266=>250 | n=>n,fun | 9=>9 | 4=>4 | 3=>3 | 5=>5 | 117=>229 | 116=>228 | 0=>0 | 124=>232 | 21=>21 | 105=>256 | 46=>174 | 119=>272 | 139=>275 | 138=>274 | n=>n,fun | 3=>2 | 4=>3 | n=>n⟩
theorem Tryz.adx:Go.Proofs.Lays.n160 Tryz.prog Tryz.Yy:={
 mixed:=by kernel_rfl
 f119:=Tryz.func246.trans (congrArg some (by kernel_rfl))
 f120:=Tryz.func240.trans (congrArg some (by kernel_rfl))
 f137:=Tryz.func245.trans (congrArg some (by kernel_rfl))
 f151:=Tryz.func226.trans (congrArg some (by kernel_rfl))
 f152:=Tryz.func239.trans (congrArg some (by kernel_rfl))
 f160:=Tryz.func155.trans (congrArg some (by kernel_rfl))
 f197:=Tryz.func225.trans (congrArg some (by kernel_rfl))
 f217:=Tryz.func249.trans (congrArg some (by kernel_rfl))
 f224:=Tryz.func247.trans (congrArg some (by kernel_rfl))
 f225:=Tryz.func248.trans (congrArg some (by kernel_rfl))
 f227:=Tryz.func195.trans (congrArg some (by kernel_rfl))
 f228:=Tryz.func224.trans (congrArg some (by kernel_rfl))
 f231:=Tryz.func193.trans (congrArg some (by kernel_rfl))
 f232:=Tryz.func194.trans (congrArg some (by kernel_rfl))
 f233:=Tryz.func196.trans (congrArg some (by kernel_rfl))
 f234:=Tryz.func197.trans (congrArg some (by kernel_rfl))
 f235:=Tryz.func198.trans (congrArg some (by kernel_rfl))
 f236:=Tryz.func199.trans (congrArg some (by kernel_rfl))
 f260:=Tryz.func238.trans (congrArg some (by kernel_rfl))
 f266:=Tryz.func250.trans (congrArg some (by kernel_rfl))
 f271:=Tryz.func227.trans (congrArg some (by kernel_rfl))
 t0:=Tryz.underlying0
 a0:=Tryz.isAgg0
 z0:=Tryz.sizeOf0
 v0:=Tryz.zeroValue0
 t3:=Tryz.underlying3
 a3:=Tryz.isAgg3
 z3:=Tryz.sizeOf3
 v3:=Tryz.zeroValue3
 t4:=Tryz.underlying4
 a4:=Tryz.isAgg4
 z4:=Tryz.sizeOf4
 v4:=Tryz.zeroValue4
 t5:=Tryz.underlying5
 a5:=Tryz.isAgg5
 z5:=Tryz.sizeOf5
 v5:=Tryz.zeroValue5
 t9:=Tryz.underlying9
 a9:=Tryz.isAgg9
 z9:=Tryz.sizeOf9
 v9:=Tryz.zeroValue9
 t21:=Tryz.underlying21
 a21:=Tryz.isAgg21
 z21:=Tryz.sizeOf21
 v21:=Tryz.zeroValue21
 t46:=Tryz.underlying174
 a46:=Tryz.isAgg174
 z46:=Tryz.sizeOf174
 v46:=Tryz.zeroValue174
 t105:=Tryz.underlying256
 a105:=Tryz.isAgg256
 z105:=Tryz.sizeOf256
 v105:=Tryz.zeroValue256
 t116:=Tryz.underlying228
 a116:=Tryz.isAgg228
 z116:=Tryz.sizeOf228
 t117:=Tryz.underlying229
 a117:=Tryz.isAgg229
 z117:=Tryz.sizeOf229
 v117:=Tryz.zeroValue229
 t119:=Tryz.underlying272
 a119:=Tryz.isAgg272
 z119:=Tryz.sizeOf272
 t124:=Tryz.underlying232
 a124:=Tryz.isAgg232
 z124:=Tryz.sizeOf232
 v124:=Tryz.zeroValue232
 t138:=Tryz.underlying274
 a138:=Tryz.isAgg274
 z138:=Tryz.sizeOf274
 v138:=Tryz.zeroValue274
 t139:=Tryz.underlying275
 a139:=Tryz.isAgg275
 z139:=Tryz.sizeOf275
 v139:=Tryz.zeroValue275
 g3:=by kernel_rfl
 g4:=by kernel_rfl }
def Tryz.Yx:Go.Shelf.Ren:=⟨fun | 106=>22 | 213=>55 | 265=>107 | n=>n,fun | 9=>9 | 3=>3 | n=>n,fun | n=>n⟩
theorem Tryz.TH:Go.Proofs.Lays.n106 Tryz.prog Tryz.Yx:={
 mixed:=by kernel_rfl
 f106:=Tryz.func22.trans (congrArg some (by kernel_rfl))
 f213:=Tryz.func55.trans (congrArg some (by kernel_rfl))
 f265:=Tryz.func107.trans (congrArg some (by kernel_rfl))
 t3:=Tryz.underlying3
 a3:=Tryz.isAgg3
 z3:=Tryz.sizeOf3
 v3:=Tryz.zeroValue3
 t9:=Tryz.underlying9
 a9:=Tryz.isAgg9
 z9:=Tryz.sizeOf9
 v9:=Tryz.zeroValue9 }
def Tryz.Xh:Go.Shelf.Ren:=⟨fun | 171=>87 | 243=>142 | 246=>182 | 283=>217 | 284=>218 | 285=>219 | 286=>220 | 129=>213 | 317=>234 | 318=>235 | 319=>236 | 320=>237 | 337=>243 | 338=>244 | n=>n,fun | 3=>3 | 9=>9 | 2=>2 | 4=>4 | 171=>248 | 0=>0 | 53=>171 | 37=>191 | 5=>5 | 173=>250 | 212=>266 | 51=>173 | 20=>20 | 213=>267 | 46=>174 | 232=>278 | 233=>279 | n=>n,fun | 17=>1 | 18=>4 | 19=>5 | n=>n⟩
theorem Tryz.acw:Go.Proofs.LaysM.n171 Tryz.prog Tryz.Xh:={
 mixed:=by kernel_rfl
 f129:=Tryz.func213.trans (congrArg some (by kernel_rfl))
 f171:=Tryz.func87.trans (congrArg some (by kernel_rfl))
 f243:=Tryz.func142.trans (congrArg some (by kernel_rfl))
 f246:=Tryz.func182.trans (congrArg some (by kernel_rfl))
 f283:=Tryz.func217.trans (congrArg some (by kernel_rfl))
 f284:=Tryz.func218.trans (congrArg some (by kernel_rfl))
 f285:=Tryz.func219.trans (congrArg some (by kernel_rfl))
 f286:=Tryz.func220.trans (congrArg some (by kernel_rfl))
 f317:=Tryz.func234.trans (congrArg some (by kernel_rfl))
 f318:=Tryz.func235.trans (congrArg some (by kernel_rfl))
 f319:=Tryz.func236.trans (congrArg some (by kernel_rfl))
 f320:=Tryz.func237.trans (congrArg some (by kernel_rfl))
 f337:=Tryz.func243.trans (congrArg some (by kernel_rfl))
 f338:=Tryz.func244.trans (congrArg some (by kernel_rfl))
 t0:=Tryz.underlying0
 a0:=Tryz.isAgg0
 z0:=Tryz.sizeOf0
 v0:=Tryz.zeroValue0
 t2:=Tryz.underlying2
 a2:=Tryz.isAgg2
 z2:=Tryz.sizeOf2
 v2:=Tryz.zeroValue2
 t3:=Tryz.underlying3
 a3:=Tryz.isAgg3
 z3:=Tryz.sizeOf3
 v3:=Tryz.zeroValue3
 t4:=Tryz.underlying4
 a4:=Tryz.isAgg4
 z4:=Tryz.sizeOf4
 v4:=Tryz.zeroValue4
 t5:=Tryz.underlying5
 a5:=Tryz.isAgg5
 z5:=Tryz.sizeOf5
 v5:=Tryz.zeroValue5
 t9:=Tryz.underlying9
 a9:=Tryz.isAgg9
 z9:=Tryz.sizeOf9
 v9:=Tryz.zeroValue9
 t20:=Tryz.underlying20
 a20:=Tryz.isAgg20
 z20:=Tryz.sizeOf20
 v20:=Tryz.zeroValue20
 t37:=Tryz.underlying191
 a37:=Tryz.isAgg191
 z37:=Tryz.sizeOf191
 v37:=Tryz.zeroValue191
 t46:=Tryz.underlying174
 a46:=Tryz.isAgg174
 z46:=Tryz.sizeOf174
 v46:=Tryz.zeroValue174
 t51:=Tryz.underlying173
 a51:=Tryz.isAgg173
 z51:=Tryz.sizeOf173
 v51:=Tryz.zeroValue173
 t53:=Tryz.underlying171
 a53:=Tryz.isAgg171
 z53:=Tryz.sizeOf171
 v53:=Tryz.zeroValue171
 t171:=Tryz.underlying248
 a171:=Tryz.isAgg248
 z171:=Tryz.sizeOf248
 v171:=Tryz.zeroValue248
 t173:=Tryz.underlying250
 a173:=Tryz.isAgg250
 z173:=Tryz.sizeOf250
 v173:=Tryz.zeroValue250
 t212:=Tryz.underlying266
 a212:=Tryz.isAgg266
 z212:=Tryz.sizeOf266
 v212:=Tryz.zeroValue266
 t213:=Tryz.underlying267
 a213:=Tryz.isAgg267
 z213:=Tryz.sizeOf267
 t232:=Tryz.underlying278
 a232:=Tryz.isAgg278
 z232:=Tryz.sizeOf278
 v232:=Tryz.zeroValue278
 t233:=Tryz.underlying279
 a233:=Tryz.isAgg279
 z233:=Tryz.sizeOf279
 v233:=Tryz.zeroValue279
 g17:=by kernel_rfl
 g18:=by kernel_rfl
 g19:=by kernel_rfl
 i0:=by kernel_rfl
 i2:=by kernel_rfl
 i3:=by kernel_rfl
 i4:=by kernel_rfl
 i5:=by kernel_rfl
 i9:=by kernel_rfl
 i20:=by kernel_rfl
 i37:=by kernel_rfl
 i46:=by kernel_rfl
 i51:=by kernel_rfl
 i53:=by kernel_rfl
 i171:=by kernel_rfl
 i173:=by kernel_rfl
 i212:=by kernel_rfl
 i232:=by kernel_rfl
 i233:=by kernel_rfl
 m17:=by kernel_rfl
 m18:=by kernel_rfl
 m19:=by kernel_rfl }
def Tryz.O9:Go.Shelf.Ren:=⟨fun | 105=>89 | 212=>149 | 99=>150 | 165=>151 | 166=>152 | 170=>153 | 169=>154 | 263=>188 | 264=>189 | 206=>190 | 240=>191 | 241=>192 | 276=>222 | 277=>223 | n=>n,fun | 9=>9 | 3=>3 | 4=>4 | 20=>20 | 0=>0 | 46=>174 | 109=>187 | 5=>5 | 72=>193 | 76=>197 | 51=>173 | 146=>221 | 53=>171 | 148=>223 | 70=>190 | 37=>191 | 75=>196 | 127=>225 | 164=>252 | 80=>199 | n=>n,fun | n=>n⟩
theorem Tryz.adw:Go.Proofs.Lays.n105 Tryz.prog Tryz.O9:={
 mixed:=by kernel_rfl
 f99:=Tryz.func150.trans (congrArg some (by kernel_rfl))
 f105:=Tryz.func89.trans (congrArg some (by kernel_rfl))
 f165:=Tryz.func151.trans (congrArg some (by kernel_rfl))
 f166:=Tryz.func152.trans (congrArg some (by kernel_rfl))
 f169:=Tryz.func154.trans (congrArg some (by kernel_rfl))
 f170:=Tryz.func153.trans (congrArg some (by kernel_rfl))
 f206:=Tryz.func190.trans (congrArg some (by kernel_rfl))
 f212:=Tryz.func149.trans (congrArg some (by kernel_rfl))
 f240:=Tryz.func191.trans (congrArg some (by kernel_rfl))
 f241:=Tryz.func192.trans (congrArg some (by kernel_rfl))
 f263:=Tryz.func188.trans (congrArg some (by kernel_rfl))
 f264:=Tryz.func189.trans (congrArg some (by kernel_rfl))
 f276:=Tryz.func222.trans (congrArg some (by kernel_rfl))
 f277:=Tryz.func223.trans (congrArg some (by kernel_rfl))
 t0:=Tryz.underlying0
 a0:=Tryz.isAgg0
 z0:=Tryz.sizeOf0
 v0:=Tryz.zeroValue0
 t3:=Tryz.underlying3
 a3:=Tryz.isAgg3
 z3:=Tryz.sizeOf3
 v3:=Tryz.zeroValue3
 t4:=Tryz.underlying4
 a4:=Tryz.isAgg4
 z4:=Tryz.sizeOf4
 v4:=Tryz.zeroValue4
 t5:=Tryz.underlying5
 a5:=Tryz.isAgg5
 z5:=Tryz.sizeOf5
 v5:=Tryz.zeroValue5
 t9:=Tryz.underlying9
 a9:=Tryz.isAgg9
 z9:=Tryz.sizeOf9
 v9:=Tryz.zeroValue9
 t20:=Tryz.underlying20
 a20:=Tryz.isAgg20
 z20:=Tryz.sizeOf20
 v20:=Tryz.zeroValue20
 t37:=Tryz.underlying191
 a37:=Tryz.isAgg191
 z37:=Tryz.sizeOf191
 v37:=Tryz.zeroValue191
 t46:=Tryz.underlying174
 a46:=Tryz.isAgg174
 z46:=Tryz.sizeOf174
 v46:=Tryz.zeroValue174
 t51:=Tryz.underlying173
 a51:=Tryz.isAgg173
 z51:=Tryz.sizeOf173
 v51:=Tryz.zeroValue173
 t53:=Tryz.underlying171
 a53:=Tryz.isAgg171
 z53:=Tryz.sizeOf171
 v53:=Tryz.zeroValue171
 t70:=Tryz.underlying190
 a70:=Tryz.isAgg190
 z70:=Tryz.sizeOf190
 v70:=Tryz.zeroValue190
 t72:=Tryz.underlying193
 a72:=Tryz.isAgg193
 z72:=Tryz.sizeOf193
 v72:=Tryz.zeroValue193
 t75:=Tryz.underlying196
 a75:=Tryz.isAgg196
 z75:=Tryz.sizeOf196
 v75:=Tryz.zeroValue196
 t76:=Tryz.underlying197
 a76:=Tryz.isAgg197
 z76:=Tryz.sizeOf197
 v76:=Tryz.zeroValue197
 t109:=Tryz.underlying187
 a109:=Tryz.isAgg187
 z109:=Tryz.sizeOf187
 v109:=Tryz.zeroValue187
 t127:=Tryz.underlying225
 a127:=Tryz.isAgg225
 z127:=Tryz.sizeOf225
 v127:=Tryz.zeroValue225
 t146:=Tryz.underlying221
 a146:=Tryz.isAgg221
 z146:=Tryz.sizeOf221
 v146:=Tryz.zeroValue221
 t148:=Tryz.underlying223
 a148:=Tryz.isAgg223
 z148:=Tryz.sizeOf223
 v148:=Tryz.zeroValue223
 t164:=Tryz.underlying252
 a164:=Tryz.isAgg252
 z164:=Tryz.sizeOf252
 v164:=Tryz.zeroValue252 }
end Go.Proofs
namespace Go.Proofs
theorem Tryz.Ov:Builder.Extra Tryz.prog Tryz.O9:={
 sizeBuilder:=by kernel_rfl
 liesBuilder:=by kernel_rfl
 t5:=Tryz.underlying5
 a5:=Tryz.isAgg5
 z5:=Tryz.sizeOf5
 v5:=Tryz.zeroValue5
 infoByte:=by kernel_rfl
 cellsByte:=by kernel_rfl
 sizeByte:=by kernel_rfl
 neB5:=by decide }
end Go.Proofs
namespace Go.Proofs.SeatU
open Go.Dn Go.Md Go.Proofs Go.RowKit Go.Shelf Go.Lib
def B3:aA:=⟨[.val .str,.val .str],[.val .str],fun x=>mH x.1 x.2.1⟩
theorem RI:cH Tryz.prog 155:=dh (fn:=Tryz.f155) (by kernel_rfl) rfl (by decide)
theorem R6:cQ Tryz.prog 155 B3:=by
 intro G w ow args x y hG how ha hm
 refine Yu (P:=Tryz.prog) (f:=155) (m:=B3.m) ?_ G w ow args x y hG how ha hm
 intro s c r w hm
 replace hm:mH s c=some (r,()):=hm
 unfold mH at hm
 cases hb:(decide (s.length<=9223372036854775807)&&(decide (c.length<4294967281)&&c.all fun b=>decide (b.toNat<128))) with
 | false=>rw[hb] at hm;cases hm
 | true=>
  rw[hb] at hm
  simp only[cond_true,Option.some.injEq,Prod.mk.injEq,and_true] at hm
  subst hm
  simp only[Bool.and_eq_true,decide_eq_true_eq,List.all_eq_true] at hb
  have:=Any.strings_Trim_laid Tryz.adx (by kernel_rfl) (bs s) (bs c) w (by simpa [bs,ByteArray.size] using hb.1) (by simpa [bs,ByteArray.size] using hb.2.1) (fun j b hj=>hb.2.2 b (List.mem_of_getElem? (by simpa [bs] using hj)))
  change Calls Tryz.prog 155 _ _ _ at this
  simpa [bs] using this
def gY:aA:=⟨[.val .str,.val .str],[.val tI],fun x=>strings_Compare x.1 x.2.1⟩
theorem mj:cH Tryz.prog 22:=dh (fn:=Tryz.f22) (by kernel_rfl) rfl (by decide)
theorem mo:cQ Tryz.prog 22 gY:=by
 intro G w ow args x y hG how ha hm
 refine aa0 (P:=Tryz.prog) (f:=22) (t:=tI) (m:=gY.m) ?_ G w ow args x y hG how ha hm
 intro s c r w hm
 replace hm:strings_Compare s c=some (r,()):=hm
 unfold strings_Compare at hm
 obtain rfl:Lib.compareBytes s c=r:=congrArg (fun o=>(Option.getD o (0,())).1) hm
 have:=Any.strings_Compare Tryz.TH (bs s) (bs c) w
 refine⟨.int .i64 (Lib.compareBytes s c),fun G=> ?_,this.mono ?_⟩
 ·rfl
 ·rintro e w' ⟨he,rfl⟩
  exact⟨he,Below.refl _ _⟩
theorem ade (n:Nat) (h:n<100):Lib.decDigits n=acg n:=by
 unfold acg
 rw[Lib.decDigits]
 by_cases h1:n<10
 ·simp[h1]
 ·rw[dif_neg h1,Lib.decDigits,dif_pos (by omega),if_neg h1];rfl
def wE:aA:=⟨[.val tI],[.val .str],fun x=>strconv_Itoa x.1⟩
theorem Hr:cH Tryz.prog 87:=dh (fn:=Tryz.f87) (by kernel_rfl) rfl (by decide)
theorem Hw:cQ Tryz.prog 87 wE:=by
 intro G w ow args x y hG how ha hm
 refine WY (P:=Tryz.prog) (f:=87) (a:=tI) (t:= .str) (m:=wE.m) (g:=1) (by kernel_rfl) rfl ?_ G w ow args x y hG how ha hm
 intro (n:Int) (r:List UInt8) w htab hm
 replace hm:strconv_Itoa n=some (r,()):=hm
 unfold strconv_Itoa at hm
 have fin: -9223372036854775808<=n->n<=9223372036854775807->Lib.itoa n=r->∃ v,(∀ G:Gh,bX G .str r v)/\Calls Tryz.prog 87 #[Kw tI n] w fun e w'=>e= .returned v/\RowKit.Below w.heap.size w w':=by
  intro h0 h1 e
  subst e
  have:=Any.strconv_Itoa Tryz.acw n h0 h1 w htab
  refine⟨.string (bs (Lib.itoa n)),fun G=>rfl,this.mono ?_⟩
  rintro e w' ⟨he,k,os,rfl⟩
  exact⟨he,X5 w k os⟩
 cases hb:(decide (0<=n)&&decide (n<100)) with
 | true=>
  rw[hb] at hm
  simp only[cond_true,Option.some.injEq,Prod.mk.injEq,and_true] at hm
  simp only[Bool.and_eq_true,decide_eq_true_eq] at hb
  obtain⟨k,rfl⟩:∃ k:Nat,n=k:=⟨n.toNat,by omega⟩
  refine fin (by omega) (by omega) ?_
  rw[<- hm,Int.toNat_natCast, <- ade k (by omega)]
  rfl
 | false=>
  rw[hb,cond_false] at hm
  cases hc:(decide (-9223372036854775808<=n)&&decide (n<=9223372036854775807)) with
  | false=>rw[hc] at hm;cases hm
  | true=>
   rw[hc] at hm
   simp only[cond_true,Option.some.injEq,Prod.mk.injEq,and_true] at hm
   simp only[Bool.and_eq_true,decide_eq_true_eq] at hc
   exact fin hc.1 hc.2 hm
def yM:aA:=⟨[.val .str,.val tI],[.val .str],fun x=>strings_Repeat x.1 x.2.1⟩
theorem OS:cH Tryz.prog 89:=dh (fn:=Tryz.f89) (by kernel_rfl) rfl (by decide)
theorem OU:cQ Tryz.prog 89 yM:=by
 intro G w ow args x y hG how ha hm
 refine Yt (P:=Tryz.prog) (f:=89) (a:= .str) (a':=tI) (t:= .str) (m:=yM.m) rfl rfl ?_ G w ow args x y hG how ha hm
 intro (s:List UInt8) (n:Int) (r:List UInt8) w hm
 replace hm:strings_Repeat s n=some (r,()):=hm
 unfold strings_Repeat at hm
 cases hb:(decide (0<=n)&&(decide (n<=9223372036854775807)&&decide (s.length*n.toNat<=140737488355328))) with
 | false=>rw[hb] at hm;cases hm
 | true=>
  rw[hb] at hm
  simp only[cond_true,Option.some.injEq,Prod.mk.injEq,and_true] at hm
  subst hm
  simp only[Bool.and_eq_true,decide_eq_true_eq] at hb
  obtain⟨k,rfl⟩:∃ k:Nat,n=k:=⟨n.toNat,by omega⟩
  have hsz:(bs s).size=s.length:=by simp[bs,ByteArray.size]
  have:=Any.strings_Repeat Tryz.adw Tryz.Ov (bs s) k w (by omega) (by rw[hsz];simpa using hb.2.2)
  refine⟨.string (bs (Lib.repeatL s k)),fun G=>rfl,this.mono ?_⟩
  rintro e w' ⟨he,hbel⟩
  exact⟨he,hbel⟩
noncomputable def BW:aA:=⟨[.val .str],[.val tI],fun x=>EK x.1⟩
theorem Kr:cH Tryz.prog 145:=dh (fn:=Tryz.f145) (by kernel_rfl) rfl (by decide)
theorem KD:cQ Tryz.prog 145 BW:=lX Tryz.prog 145 [.val .str] [.val tI]
noncomputable def Au:aA:=⟨[.val .str],[.val .bool],fun x=>El x.1⟩
theorem F7:cH Tryz.prog 147:=dh (fn:=Tryz.f147) (by kernel_rfl) rfl (by decide)
theorem Ge:cQ Tryz.prog 147 Au:=lX Tryz.prog 147 [.val .str] [.val .bool]
noncomputable def GF:aA:=⟨[.val .str],[.val .bool],fun x=>KZ x.1⟩
theorem Qm:cH Tryz.prog 144:=dh (fn:=Tryz.f144) (by kernel_rfl) rfl (by decide)
theorem Qs:cQ Tryz.prog 144 GF:=lX Tryz.prog 144 [.val .str] [.val .bool]
noncomputable def HL:aA:=⟨[.val .str],[.val .bool],fun x=>L4 x.1⟩
theorem RF:cH Tryz.prog 185:=dh (fn:=Tryz.f185) (by kernel_rfl) rfl (by decide)
theorem R3:cQ Tryz.prog 185 HL:=lX Tryz.prog 185 [.val .str] [.val .bool]
noncomputable def GG:aA:=⟨[.val tI,.val tI],[.val .str],fun x=>K1 x.1 x.2.1⟩
theorem Qn:cH Tryz.prog 146:=dh (fn:=Tryz.f146) (by kernel_rfl) rfl (by decide)
theorem Qt:cQ Tryz.prog 146 GG:=lX Tryz.prog 146 [.val tI,.val tI] [.val .str]
noncomputable def HQ:aA:=⟨[.val .str,.val .bool],[.val .bool],fun x=>Gt x.1 x.2.1⟩
theorem RG:cH Tryz.prog 169:=dh (fn:=Tryz.f169) (by kernel_rfl) rfl (by decide)
theorem R4:cQ Tryz.prog 169 HQ:=lX Tryz.prog 169 [.val .str,.val .bool] [.val .bool]
noncomputable def HR:aA:=⟨[.val .str,.val tI],[.val tI],fun x=>No x.1 x.2.1⟩
theorem RH:cH Tryz.prog 170:=dh (fn:=Tryz.f170) (by kernel_rfl) rfl (by decide)
theorem R5:cQ Tryz.prog 170 HR:=lX Tryz.prog 170 [.val .str,.val tI] [.val tI]
noncomputable def JF:aA:=⟨[.val .str],[.val (.int .u8)],fun x=>Pn x.1⟩
theorem TB:cH Tryz.prog 172:=dh (fn:=Tryz.f172) (by kernel_rfl) rfl (by decide)
theorem TO:cQ Tryz.prog 172 JF:=lX Tryz.prog 172 [.val .str] [.val (.int .u8)]
noncomputable def NJ:aA:=⟨[.val .str],[.val .str],fun x=>UR x.1⟩
theorem W6:cH Tryz.prog 171:=dh (fn:=Tryz.f171) (by kernel_rfl) rfl (by decide)
theorem Xp:cQ Tryz.prog 171 NJ:=lX Tryz.prog 171 [.val .str] [.val .str]
end Go.Proofs.SeatU
