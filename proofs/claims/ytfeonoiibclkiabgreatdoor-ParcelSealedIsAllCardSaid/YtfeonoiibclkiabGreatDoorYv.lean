/-
  Functions of the library by contracts. No condition.
-/
import Derived.Test.YtfeonoiibclkiabGreatDoorYo
import Derived.Test.YtfeonoiibclkiabGreatDoorYd
import Derived.Test.YtfeonoiibclkiabGreatDoorProg
import Derived.Shelf.LaysM
import Derived.Shelf.Strings.SlTrimAscii
import Derived.Shelf.Small.Strs
import Derived.Shelf.Strconv.Itoa3
import Derived.Shelf.Strings.Repeat
set_option linter.all false
namespace Go.Proofs
open Go.Shelf
def Tryz.Ot:Go.Shelf.Ren:=⟨fun | 160=>99 | 232=>128 | 231=>127 | 227=>129 | 234=>131 | 233=>130 | 236=>133 | 235=>132 | 228=>158 | 271=>161 | 151=>160 | 197=>159 | 120=>175 | 152=>174 | 260=>173 | 137=>180 | 119=>181 | 224=>182 | 225=>183 | 217=>184 | 266=>185 | n=>n,fun | 9=>9 | 4=>4 | 3=>3 | 5=>5 | 117=>180 | 116=>179 | 0=>0 | 124=>183 | 21=>21 | 105=>209 | 46=>132 | 119=>226 | 139=>229 | 138=>228 | n=>n,fun | 3=>2 | 4=>3 | n=>n⟩
theorem Tryz.SC:Go.Proofs.Lays.n160 Tryz.prog Tryz.Ot:={
 mixed:=by kernel_rfl
 f119:=Tryz.func181.trans (congrArg some (by kernel_rfl))
 f120:=Tryz.func175.trans (congrArg some (by kernel_rfl))
 f137:=Tryz.func180.trans (congrArg some (by kernel_rfl))
 f151:=Tryz.func160.trans (congrArg some (by kernel_rfl))
 f152:=Tryz.func174.trans (congrArg some (by kernel_rfl))
 f160:=Tryz.func99.trans (congrArg some (by kernel_rfl))
 f197:=Tryz.func159.trans (congrArg some (by kernel_rfl))
 f217:=Tryz.func184.trans (congrArg some (by kernel_rfl))
 f224:=Tryz.func182.trans (congrArg some (by kernel_rfl))
 f225:=Tryz.func183.trans (congrArg some (by kernel_rfl))
 f227:=Tryz.func129.trans (congrArg some (by kernel_rfl))
 f228:=Tryz.func158.trans (congrArg some (by kernel_rfl))
 f231:=Tryz.func127.trans (congrArg some (by kernel_rfl))
 f232:=Tryz.func128.trans (congrArg some (by kernel_rfl))
 f233:=Tryz.func130.trans (congrArg some (by kernel_rfl))
 f234:=Tryz.func131.trans (congrArg some (by kernel_rfl))
 f235:=Tryz.func132.trans (congrArg some (by kernel_rfl))
 f236:=Tryz.func133.trans (congrArg some (by kernel_rfl))
 f260:=Tryz.func173.trans (congrArg some (by kernel_rfl))
 f266:=Tryz.func185.trans (congrArg some (by kernel_rfl))
 f271:=Tryz.func161.trans (congrArg some (by kernel_rfl))
 t0:=Tryz.underlying0
 a0:=Tryz.isAgg0
 z0:=Tryz.sizeOf0
 v0:=Tryz.zeroValue0
 t3:=Tryz.underlying3
 a3:=Tryz.isAgg3
 z3:=Tryz.sizeOf3
 v3:=Tryz.zeroValue3
 t4:=Tryz.underlying4
 a4:=Tryz.isAgg4
 z4:=Tryz.sizeOf4
 v4:=Tryz.zeroValue4
 t5:=Tryz.underlying5
 a5:=Tryz.isAgg5
 z5:=Tryz.sizeOf5
 v5:=Tryz.zeroValue5
 t9:=Tryz.underlying9
 a9:=Tryz.isAgg9
 z9:=Tryz.sizeOf9
 v9:=Tryz.zeroValue9
 t21:=Tryz.underlying21
 a21:=Tryz.isAgg21
 z21:=Tryz.sizeOf21
 v21:=Tryz.zeroValue21
 t46:=Tryz.underlying132
 a46:=Tryz.isAgg132
 z46:=Tryz.sizeOf132
 v46:=Tryz.zeroValue132
 t105:=Tryz.underlying209
 a105:=Tryz.isAgg209
 z105:=Tryz.sizeOf209
 v105:=Tryz.zeroValue209
 t116:=Tryz.underlying179
 a116:=Tryz.isAgg179
 z116:=Tryz.sizeOf179
 t117:=Tryz.underlying180
 a117:=Tryz.isAgg180
 z117:=Tryz.sizeOf180
 v117:=Tryz.zeroValue180
 t119:=Tryz.underlying226
 a119:=Tryz.isAgg226
 z119:=Tryz.sizeOf226
 t124:=Tryz.underlying183
 a124:=Tryz.isAgg183
 z124:=Tryz.sizeOf183
 v124:=Tryz.zeroValue183
 t138:=Tryz.underlying228
 a138:=Tryz.isAgg228
 z138:=Tryz.sizeOf228
 v138:=Tryz.zeroValue228
 t139:=Tryz.underlying229
 a139:=Tryz.isAgg229
 z139:=Tryz.sizeOf229
 v139:=Tryz.zeroValue229
 g3:=by kernel_rfl
 g4:=by kernel_rfl }
def Tryz.Oq:Go.Shelf.Ren:=⟨fun | 106=>19 | 213=>37 | 265=>73 | n=>n,fun | 9=>9 | 3=>3 | n=>n,fun | n=>n⟩
theorem Tryz.OV:Go.Proofs.Lays.n106 Tryz.prog Tryz.Oq:={
 mixed:=by kernel_rfl
 f106:=Tryz.func19.trans (congrArg some (by kernel_rfl))
 f213:=Tryz.func37.trans (congrArg some (by kernel_rfl))
 f265:=Tryz.func73.trans (congrArg some (by kernel_rfl))
 t3:=Tryz.underlying3
 a3:=Tryz.isAgg3
 z3:=Tryz.sizeOf3
 v3:=Tryz.zeroValue3
 t9:=Tryz.underlying9
 a9:=Tryz.isAgg9
 z9:=Tryz.sizeOf9
 v9:=Tryz.zeroValue9 }
def Tryz.Ny:Go.Shelf.Ren:=⟨fun | 171=>41 | 243=>75 | 246=>110 | 283=>140 | 284=>141 | 285=>142 | 286=>143 | 129=>156 | 317=>164 | 318=>165 | 319=>166 | 320=>167 | 337=>177 | 338=>178 | n=>n,fun | 3=>3 | 9=>9 | 2=>2 | 4=>4 | 171=>190 | 0=>0 | 53=>146 | 37=>137 | 5=>5 | 173=>193 | 212=>214 | 51=>148 | 20=>20 | 213=>215 | 46=>132 | 232=>232 | 233=>233 | n=>n,fun | 17=>1 | 18=>4 | 19=>5 | n=>n⟩
theorem Tryz.RL:Go.Proofs.LaysM.n171 Tryz.prog Tryz.Ny:={
 mixed:=by kernel_rfl
 f129:=Tryz.func156.trans (congrArg some (by kernel_rfl))
 f171:=Tryz.func41.trans (congrArg some (by kernel_rfl))
 f243:=Tryz.func75.trans (congrArg some (by kernel_rfl))
 f246:=Tryz.func110.trans (congrArg some (by kernel_rfl))
 f283:=Tryz.func140.trans (congrArg some (by kernel_rfl))
 f284:=Tryz.func141.trans (congrArg some (by kernel_rfl))
 f285:=Tryz.func142.trans (congrArg some (by kernel_rfl))
 f286:=Tryz.func143.trans (congrArg some (by kernel_rfl))
 f317:=Tryz.func164.trans (congrArg some (by kernel_rfl))
 f318:=Tryz.func165.trans (congrArg some (by kernel_rfl))
 f319:=Tryz.func166.trans (congrArg some (by kernel_rfl))
 f320:=Tryz.func167.trans (congrArg some (by kernel_rfl))
 f337:=Tryz.func177.trans (congrArg some (by kernel_rfl))
 f338:=Tryz.func178.trans (congrArg some (by kernel_rfl))
 t0:=Tryz.underlying0
 a0:=Tryz.isAgg0
 z0:=Tryz.sizeOf0
 v0:=Tryz.zeroValue0
 t2:=Tryz.underlying2
 a2:=Tryz.isAgg2
 z2:=Tryz.sizeOf2
 v2:=Tryz.zeroValue2
 t3:=Tryz.underlying3
 a3:=Tryz.isAgg3
 z3:=Tryz.sizeOf3
 v3:=Tryz.zeroValue3
 t4:=Tryz.underlying4
 a4:=Tryz.isAgg4
 z4:=Tryz.sizeOf4
 v4:=Tryz.zeroValue4
 t5:=Tryz.underlying5
 a5:=Tryz.isAgg5
 z5:=Tryz.sizeOf5
 v5:=Tryz.zeroValue5
 t9:=Tryz.underlying9
 a9:=Tryz.isAgg9
 z9:=Tryz.sizeOf9
 v9:=Tryz.zeroValue9
 t20:=Tryz.underlying20
 a20:=Tryz.isAgg20
 z20:=Tryz.sizeOf20
 v20:=Tryz.zeroValue20
 t37:=Tryz.underlying137
 a37:=Tryz.isAgg137
 z37:=Tryz.sizeOf137
 v37:=Tryz.zeroValue137
 t46:=Tryz.underlying132
 a46:=Tryz.isAgg132
 z46:=Tryz.sizeOf132
 v46:=Tryz.zeroValue132
 t51:=Tryz.underlying148
 a51:=Tryz.isAgg148
 z51:=Tryz.sizeOf148
 v51:=Tryz.zeroValue148
 t53:=Tryz.underlying146
 a53:=Tryz.isAgg146
 z53:=Tryz.sizeOf146
 v53:=Tryz.zeroValue146
 t171:=Tryz.underlying190
 a171:=Tryz.isAgg190
 z171:=Tryz.sizeOf190
 v171:=Tryz.zeroValue190
 t173:=Tryz.underlying193
 a173:=Tryz.isAgg193
 z173:=Tryz.sizeOf193
 v173:=Tryz.zeroValue193
 t212:=Tryz.underlying214
 a212:=Tryz.isAgg214
 z212:=Tryz.sizeOf214
 v212:=Tryz.zeroValue214
 t213:=Tryz.underlying215
 a213:=Tryz.isAgg215
 z213:=Tryz.sizeOf215
 t232:=Tryz.underlying232
 a232:=Tryz.isAgg232
 z232:=Tryz.sizeOf232
 v232:=Tryz.zeroValue232
 t233:=Tryz.underlying233
 a233:=Tryz.isAgg233
 z233:=Tryz.sizeOf233
 v233:=Tryz.zeroValue233
 g17:=by kernel_rfl
 g18:=by kernel_rfl
 g19:=by kernel_rfl
 i0:=by kernel_rfl
 i2:=by kernel_rfl
 i3:=by kernel_rfl
 i4:=by kernel_rfl
 i5:=by kernel_rfl
 i9:=by kernel_rfl
 i20:=by kernel_rfl
 i37:=by kernel_rfl
 i46:=by kernel_rfl
 i51:=by kernel_rfl
 i53:=by kernel_rfl
 i171:=by kernel_rfl
 i173:=by kernel_rfl
 i212:=by kernel_rfl
 i232:=by kernel_rfl
 i233:=by kernel_rfl
 m17:=by kernel_rfl
 m18:=by kernel_rfl
 m19:=by kernel_rfl }
def Tryz.Hv:Go.Shelf.Ren:=⟨fun | 105=>43 | 212=>82 | 99=>83 | 165=>84 | 166=>85 | 170=>86 | 169=>87 | 263=>116 | 264=>117 | 206=>118 | 240=>119 | 241=>120 | 276=>145 | 277=>146 | n=>n,fun | 9=>9 | 3=>3 | 4=>4 | 20=>20 | 0=>0 | 46=>132 | 109=>133 | 5=>5 | 72=>139 | 76=>143 | 51=>148 | 146=>166 | 53=>146 | 148=>168 | 70=>136 | 37=>137 | 75=>142 | 127=>170 | 164=>196 | 80=>145 | n=>n,fun | n=>n⟩
theorem Tryz.SB:Go.Proofs.Lays.n105 Tryz.prog Tryz.Hv:={
 mixed:=by kernel_rfl
 f99:=Tryz.func83.trans (congrArg some (by kernel_rfl))
 f105:=Tryz.func43.trans (congrArg some (by kernel_rfl))
 f165:=Tryz.func84.trans (congrArg some (by kernel_rfl))
 f166:=Tryz.func85.trans (congrArg some (by kernel_rfl))
 f169:=Tryz.func87.trans (congrArg some (by kernel_rfl))
 f170:=Tryz.func86.trans (congrArg some (by kernel_rfl))
 f206:=Tryz.func118.trans (congrArg some (by kernel_rfl))
 f212:=Tryz.func82.trans (congrArg some (by kernel_rfl))
 f240:=Tryz.func119.trans (congrArg some (by kernel_rfl))
 f241:=Tryz.func120.trans (congrArg some (by kernel_rfl))
 f263:=Tryz.func116.trans (congrArg some (by kernel_rfl))
 f264:=Tryz.func117.trans (congrArg some (by kernel_rfl))
 f276:=Tryz.func145.trans (congrArg some (by kernel_rfl))
 f277:=Tryz.func146.trans (congrArg some (by kernel_rfl))
 t0:=Tryz.underlying0
 a0:=Tryz.isAgg0
 z0:=Tryz.sizeOf0
 v0:=Tryz.zeroValue0
 t3:=Tryz.underlying3
 a3:=Tryz.isAgg3
 z3:=Tryz.sizeOf3
 v3:=Tryz.zeroValue3
 t4:=Tryz.underlying4
 a4:=Tryz.isAgg4
 z4:=Tryz.sizeOf4
 v4:=Tryz.zeroValue4
 t5:=Tryz.underlying5
 a5:=Tryz.isAgg5
 z5:=Tryz.sizeOf5
 v5:=Tryz.zeroValue5
 t9:=Tryz.underlying9
 a9:=Tryz.isAgg9
 z9:=Tryz.sizeOf9
 v9:=Tryz.zeroValue9
 t20:=Tryz.underlying20
 a20:=Tryz.isAgg20
 z20:=Tryz.sizeOf20
 v20:=Tryz.zeroValue20
 t37:=Tryz.underlying137
 a37:=Tryz.isAgg137
 z37:=Tryz.sizeOf137
 v37:=Tryz.zeroValue137
 t46:=Tryz.underlying132
 a46:=Tryz.isAgg132
 z46:=Tryz.sizeOf132
 v46:=Tryz.zeroValue132
 t51:=Tryz.underlying148
 a51:=Tryz.isAgg148
 z51:=Tryz.sizeOf148
 v51:=Tryz.zeroValue148
 t53:=Tryz.underlying146
 a53:=Tryz.isAgg146
 z53:=Tryz.sizeOf146
 v53:=Tryz.zeroValue146
 t70:=Tryz.underlying136
 a70:=Tryz.isAgg136
 z70:=Tryz.sizeOf136
 v70:=Tryz.zeroValue136
 t72:=Tryz.underlying139
 a72:=Tryz.isAgg139
 z72:=Tryz.sizeOf139
 v72:=Tryz.zeroValue139
 t75:=Tryz.underlying142
 a75:=Tryz.isAgg142
 z75:=Tryz.sizeOf142
 v75:=Tryz.zeroValue142
 t76:=Tryz.underlying143
 a76:=Tryz.isAgg143
 z76:=Tryz.sizeOf143
 v76:=Tryz.zeroValue143
 t109:=Tryz.underlying133
 a109:=Tryz.isAgg133
 z109:=Tryz.sizeOf133
 v109:=Tryz.zeroValue133
 t127:=Tryz.underlying170
 a127:=Tryz.isAgg170
 z127:=Tryz.sizeOf170
 v127:=Tryz.zeroValue170
 t146:=Tryz.underlying166
 a146:=Tryz.isAgg166
 z146:=Tryz.sizeOf166
 v146:=Tryz.zeroValue166
 t148:=Tryz.underlying168
 a148:=Tryz.isAgg168
 z148:=Tryz.sizeOf168
 v148:=Tryz.zeroValue168
 t164:=Tryz.underlying196
 a164:=Tryz.isAgg196
 z164:=Tryz.sizeOf196
 v164:=Tryz.zeroValue196 }
end Go.Proofs
namespace Go.Proofs
theorem Tryz.Gz:Builder.Extra Tryz.prog Tryz.Hv:={
 sizeBuilder:=by kernel_rfl
 liesBuilder:=by kernel_rfl
 t5:=Tryz.underlying5
 a5:=Tryz.isAgg5
 z5:=Tryz.sizeOf5
 v5:=Tryz.zeroValue5
 infoByte:=by kernel_rfl
 cellsByte:=by kernel_rfl
 sizeByte:=by kernel_rfl
 neB5:=by decide }
end Go.Proofs
namespace Go.Proofs.SeatU
open Go.Dn Go.Md Go.Proofs Go.RowKit Go.Shelf Go.Lib
def wq:aB:=⟨[.val .str,.val .str],[.val .str],fun x=>ou x.1 x.2.1⟩
theorem Jz:av Tryz.prog 99:=an (fn:=Tryz.f99) (by kernel_rfl) rfl (by decide)
theorem JP:aH Tryz.prog 99 wq:=by
 intro G w ow args x y hG how ha hm
 refine Om (P:=Tryz.prog) (f:=99) (m:=wq.m) ?_ G w ow args x y hG how ha hm
 intro s c r w hm
 replace hm:ou s c=some (r,()):=hm
 unfold ou at hm
 cases hb:(decide (s.length≤9223372036854775807)&&(decide (c.length<4294967281)&&c.all fun b=>decide (b.toNat<128))) with
 | false=>rw[hb] at hm;cases hm
 | true=>
  rw[hb] at hm
  simp only[cond_true,Option.some.injEq,Prod.mk.injEq,and_true] at hm
  subst hm
  simp only[Bool.and_eq_true,decide_eq_true_eq,List.all_eq_true] at hb
  have:=Any.strings_Trim_laid Tryz.SC (by kernel_rfl) (bs s) (bs c) w (by simpa [bs,ByteArray.size] using hb.1) (by simpa [bs,ByteArray.size] using hb.2.1) (fun j b hj=>hb.2.2 b (List.mem_of_getElem? (by simpa [bs] using hj)))
  change Calls Tryz.prog 99 _ _ _ at this
  simpa [bs] using this
def gM:aB:=⟨[.val .str,.val .str],[.val tI],fun x=>strings_Compare x.1 x.2.1⟩
theorem mH:av Tryz.prog 19:=an (fn:=Tryz.f19) (by kernel_rfl) rfl (by decide)
theorem mM:aH Tryz.prog 19 gM:=by
 intro G w ow args x y hG how ha hm
 refine QJ (P:=Tryz.prog) (f:=19) (t:=tI) (m:=gM.m) ?_ G w ow args x y hG how ha hm
 intro s c r w hm
 replace hm:strings_Compare s c=some (r,()):=hm
 unfold strings_Compare at hm
 obtain rfl:Lib.compareBytes s c=r:=congrArg (fun o=>(Option.getD o (0,())).1) hm
 have:=Any.strings_Compare Tryz.OV (bs s) (bs c) w
 refine⟨.int .i64 (Lib.compareBytes s c),fun G=> ?_,this.mono ?_⟩
 ·rfl
 ·rintro e w' ⟨he,rfl⟩
  exact⟨he,Below.refl _ _⟩
theorem Sp (n:Nat) (h:n<100):Lib.decDigits n=RD n:=by
 unfold RD
 rw[Lib.decDigits]
 by_cases h1:n<10
 ·simp[h1]
 ·rw[dif_neg h1,Lib.decDigits,dif_pos (by omega),if_neg h1];rfl
def rF:aB:=⟨[.val tI],[.val .str],fun x=>strconv_Itoa x.1⟩
theorem A8:av Tryz.prog 41:=an (fn:=Tryz.f41) (by kernel_rfl) rfl (by decide)
theorem Bf:aH Tryz.prog 41 rF:=by
 intro G w ow args x y hG how ha hm
 refine Nj (P:=Tryz.prog) (f:=41) (a:=tI) (t:= .str) (m:=rF.m) (g:=1) (by kernel_rfl) rfl ?_ G w ow args x y hG how ha hm
 intro (n:Int) (r:List UInt8) w htab hm
 replace hm:strconv_Itoa n=some (r,()):=hm
 unfold strconv_Itoa at hm
 have fin: -9223372036854775808≤n→n≤9223372036854775807→Lib.itoa n=r→∃ v,(∀ G:Gh,bJ G .str r v)∧Calls Tryz.prog 41 #[Dc tI n] w fun e w'=>e= .returned v∧RowKit.Below w.heap.size w w':=by
  intro h0 h1 e
  subst e
  have:=Any.strconv_Itoa Tryz.RL n h0 h1 w htab
  refine⟨.string (bs (Lib.itoa n)),fun G=>rfl,this.mono ?_⟩
  rintro e w' ⟨he,k,os,rfl⟩
  exact⟨he,Oc w k os⟩
 cases hb:(decide (0≤n)&&decide (n<100)) with
 | true=>
  rw[hb] at hm
  simp only[cond_true,Option.some.injEq,Prod.mk.injEq,and_true] at hm
  simp only[Bool.and_eq_true,decide_eq_true_eq] at hb
  obtain⟨k,rfl⟩:∃ k:Nat,n=k:=⟨n.toNat,by omega⟩
  refine fin (by omega) (by omega) ?_
  rw[← hm,Int.toNat_natCast, ← Sp k (by omega)]
  rfl
 | false=>
  rw[hb,cond_false] at hm
  cases hc:(decide (-9223372036854775808≤n)&&decide (n≤9223372036854775807)) with
  | false=>rw[hc] at hm;cases hm
  | true=>
   rw[hc] at hm
   simp only[cond_true,Option.some.injEq,Prod.mk.injEq,and_true] at hm
   simp only[Bool.and_eq_true,decide_eq_true_eq] at hc
   exact fin hc.1 hc.2 hm
def tv:aB:=⟨[.val .str,.val tI],[.val .str],fun x=>strings_Repeat x.1 x.2.1⟩
theorem G5:av Tryz.prog 43:=an (fn:=Tryz.f43) (by kernel_rfl) rfl (by decide)
theorem Hf:aH Tryz.prog 43 tv:=by
 intro G w ow args x y hG how ha hm
 refine Ol (P:=Tryz.prog) (f:=43) (a:= .str) (a':=tI) (t:= .str) (m:=tv.m) rfl rfl ?_ G w ow args x y hG how ha hm
 intro (s:List UInt8) (n:Int) (r:List UInt8) w hm
 replace hm:strings_Repeat s n=some (r,()):=hm
 unfold strings_Repeat at hm
 cases hb:(decide (0≤n)&&(decide (n≤9223372036854775807)&&decide (s.length*n.toNat≤140737488355328))) with
 | false=>rw[hb] at hm;cases hm
 | true=>
  rw[hb] at hm
  simp only[cond_true,Option.some.injEq,Prod.mk.injEq,and_true] at hm
  subst hm
  simp only[Bool.and_eq_true,decide_eq_true_eq] at hb
  obtain⟨k,rfl⟩:∃ k:Nat,n=k:=⟨n.toNat,by omega⟩
  have hsz:(bs s).size=s.length:=by simp[bs,ByteArray.size]
  have:=Any.strings_Repeat Tryz.SB Tryz.Gz (bs s) k w (by omega) (by rw[hsz];simpa using hb.2.2)
  refine⟨.string (bs (Lib.repeatL s k)),fun G=>rfl,this.mono ?_⟩
  rintro e w' ⟨he,hbel⟩
  exact⟨he,hbel⟩
noncomputable def AG:aB:=⟨[.val bV,.val bE],[.val (.slice ax),.val tI],fun x=>DY x.1 x.2.1⟩
theorem Iq:av Tryz.prog 33:=an (fn:=Tryz.f33) (by kernel_rfl) rfl (by decide)
theorem Iz:aH Tryz.prog 33 AG:=nv Tryz.prog 33 [.val bV,.val bE] [.val (.slice ax),.val tI]
noncomputable def wm:aB:=⟨[.val tI,.val .str,.val bu,.val aA],[.val ax,.val tI],fun x=>yO x.1 x.2.1 x.2.2.1 x.2.2.2.1⟩
theorem C3:av Tryz.prog 34:=an (fn:=Tryz.f34) (by kernel_rfl) rfl (by decide)
theorem Dk:aH Tryz.prog 34 wm:=nv Tryz.prog 34 [.val tI,.val .str,.val bu,.val aA] [.val ax,.val tI]
noncomputable def wh:aB:=⟨[.val .str],[.val tI],fun x=>yF x.1⟩
theorem C2:av Tryz.prog 78:=an (fn:=Tryz.f78) (by kernel_rfl) rfl (by decide)
theorem Dj:aH Tryz.prog 78 wh:=nv Tryz.prog 78 [.val .str] [.val tI]
noncomputable def uY:aB:=⟨[.val .str],[.val .bool],fun x=>yj x.1⟩
theorem Ac:av Tryz.prog 80:=an (fn:=Tryz.f80) (by kernel_rfl) rfl (by decide)
theorem Al:aH Tryz.prog 80 uY:=nv Tryz.prog 80 [.val .str] [.val .bool]
noncomputable def AB:aB:=⟨[.val .str],[.val .bool],fun x=>DJ x.1⟩
theorem Il:av Tryz.prog 77:=an (fn:=Tryz.f77) (by kernel_rfl) rfl (by decide)
theorem Iv:aH Tryz.prog 77 AB:=nv Tryz.prog 77 [.val .str] [.val .bool]
noncomputable def Bh:aB:=⟨[.val .str],[.val .bool],fun x=>ED x.1⟩
theorem Jw:av Tryz.prog 113:=an (fn:=Tryz.f113) (by kernel_rfl) rfl (by decide)
theorem JM:aH Tryz.prog 113 Bh:=nv Tryz.prog 113 [.val .str] [.val .bool]
noncomputable def AD:aB:=⟨[.val tI,.val tI],[.val .str],fun x=>DK x.1 x.2.1⟩
theorem Im:av Tryz.prog 79:=an (fn:=Tryz.f79) (by kernel_rfl) rfl (by decide)
theorem Iw:aH Tryz.prog 79 AD:=nv Tryz.prog 79 [.val tI,.val tI] [.val .str]
end Go.Proofs.SeatU
