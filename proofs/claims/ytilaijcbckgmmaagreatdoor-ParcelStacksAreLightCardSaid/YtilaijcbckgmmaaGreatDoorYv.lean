/-
  Functions of the library by contracts. No condition.
-/
import Derived.Test.YtilaijcbckgmmaaGreatDoorYo
import Derived.Test.YtilaijcbckgmmaaGreatDoorYd
import Derived.Test.YtilaijcbckgmmaaGreatDoorProg
import Derived.Shelf.LaysM
import Derived.Shelf.Strings.SlTrimAscii
import Derived.Shelf.Small.Strs
import Derived.Shelf.Strconv.Itoa3
import Derived.Shelf.Strings.Repeat
import Derived.Test.YtilaijcbckgmmaaGreatDoorYk
import Derived.WalkKit
import Derived.LoopN
set_option linter.all false
namespace Go.Proofs
open Go.Shelf
def Tryz.P5:Go.Shelf.Ren:=⟨fun | 160=>66 | 232=>111 | 231=>110 | 227=>112 | 234=>114 | 233=>113 | 236=>116 | 235=>115 | 228=>145 | 271=>148 | 151=>147 | 197=>146 | 120=>163 | 152=>162 | 260=>161 | 137=>169 | 119=>170 | 224=>171 | 225=>172 | 217=>175 | 266=>176 | n=>n,fun | 9=>9 | 4=>4 | 3=>3 | 5=>5 | 117=>158 | 116=>157 | 0=>0 | 124=>161 | 21=>21 | 105=>188 | 46=>96 | 119=>208 | 139=>211 | 138=>210 | n=>n,fun | 3=>2 | 4=>3 | n=>n⟩
theorem Tryz.U5:Go.Proofs.Lays.n160 Tryz.prog Tryz.P5:={
 mixed:=by kernel_rfl
 f119:=Tryz.func170.trans (congrArg some (by kernel_rfl))
 f120:=Tryz.func163.trans (congrArg some (by kernel_rfl))
 f137:=Tryz.func169.trans (congrArg some (by kernel_rfl))
 f151:=Tryz.func147.trans (congrArg some (by kernel_rfl))
 f152:=Tryz.func162.trans (congrArg some (by kernel_rfl))
 f160:=Tryz.func66.trans (congrArg some (by kernel_rfl))
 f197:=Tryz.func146.trans (congrArg some (by kernel_rfl))
 f217:=Tryz.func175.trans (congrArg some (by kernel_rfl))
 f224:=Tryz.func171.trans (congrArg some (by kernel_rfl))
 f225:=Tryz.func172.trans (congrArg some (by kernel_rfl))
 f227:=Tryz.func112.trans (congrArg some (by kernel_rfl))
 f228:=Tryz.func145.trans (congrArg some (by kernel_rfl))
 f231:=Tryz.func110.trans (congrArg some (by kernel_rfl))
 f232:=Tryz.func111.trans (congrArg some (by kernel_rfl))
 f233:=Tryz.func113.trans (congrArg some (by kernel_rfl))
 f234:=Tryz.func114.trans (congrArg some (by kernel_rfl))
 f235:=Tryz.func115.trans (congrArg some (by kernel_rfl))
 f236:=Tryz.func116.trans (congrArg some (by kernel_rfl))
 f260:=Tryz.func161.trans (congrArg some (by kernel_rfl))
 f266:=Tryz.func176.trans (congrArg some (by kernel_rfl))
 f271:=Tryz.func148.trans (congrArg some (by kernel_rfl))
 t0:=Tryz.underlying0
 a0:=Tryz.isAgg0
 z0:=Tryz.sizeOf0
 v0:=Tryz.zeroValue0
 t3:=Tryz.underlying3
 a3:=Tryz.isAgg3
 z3:=Tryz.sizeOf3
 v3:=Tryz.zeroValue3
 t4:=Tryz.underlying4
 a4:=Tryz.isAgg4
 z4:=Tryz.sizeOf4
 v4:=Tryz.zeroValue4
 t5:=Tryz.underlying5
 a5:=Tryz.isAgg5
 z5:=Tryz.sizeOf5
 v5:=Tryz.zeroValue5
 t9:=Tryz.underlying9
 a9:=Tryz.isAgg9
 z9:=Tryz.sizeOf9
 v9:=Tryz.zeroValue9
 t21:=Tryz.underlying21
 a21:=Tryz.isAgg21
 z21:=Tryz.sizeOf21
 v21:=Tryz.zeroValue21
 t46:=Tryz.underlying96
 a46:=Tryz.isAgg96
 z46:=Tryz.sizeOf96
 v46:=Tryz.zeroValue96
 t105:=Tryz.underlying188
 a105:=Tryz.isAgg188
 z105:=Tryz.sizeOf188
 v105:=Tryz.zeroValue188
 t116:=Tryz.underlying157
 a116:=Tryz.isAgg157
 z116:=Tryz.sizeOf157
 t117:=Tryz.underlying158
 a117:=Tryz.isAgg158
 z117:=Tryz.sizeOf158
 v117:=Tryz.zeroValue158
 t119:=Tryz.underlying208
 a119:=Tryz.isAgg208
 z119:=Tryz.sizeOf208
 t124:=Tryz.underlying161
 a124:=Tryz.isAgg161
 z124:=Tryz.sizeOf161
 v124:=Tryz.zeroValue161
 t138:=Tryz.underlying210
 a138:=Tryz.isAgg210
 z138:=Tryz.sizeOf210
 v138:=Tryz.zeroValue210
 t139:=Tryz.underlying211
 a139:=Tryz.isAgg211
 z139:=Tryz.sizeOf211
 v139:=Tryz.zeroValue211
 g3:=by kernel_rfl
 g4:=by kernel_rfl }
def Tryz.P4:Go.Shelf.Ren:=⟨fun | 106=>26 | 213=>65 | 265=>109 | n=>n,fun | 9=>9 | 3=>3 | n=>n,fun | n=>n⟩
theorem Tryz.QM:Go.Proofs.Lays.n106 Tryz.prog Tryz.P4:={
 mixed:=by kernel_rfl
 f106:=Tryz.func26.trans (congrArg some (by kernel_rfl))
 f213:=Tryz.func65.trans (congrArg some (by kernel_rfl))
 f265:=Tryz.func109.trans (congrArg some (by kernel_rfl))
 t3:=Tryz.underlying3
 a3:=Tryz.isAgg3
 z3:=Tryz.sizeOf3
 v3:=Tryz.zeroValue3
 t9:=Tryz.underlying9
 a9:=Tryz.isAgg9
 z9:=Tryz.sizeOf9
 v9:=Tryz.zeroValue9 }
def Tryz.OD:Go.Shelf.Ren:=⟨fun | 171=>59 | 243=>86 | 246=>129 | 283=>153 | 284=>154 | 285=>155 | 286=>156 | 129=>108 | 317=>165 | 318=>166 | 319=>167 | 320=>168 | 337=>173 | 338=>174 | n=>n,fun | 3=>3 | 9=>9 | 2=>2 | 4=>4 | 171=>193 | 0=>0 | 53=>94 | 37=>137 | 5=>5 | 173=>195 | 212=>206 | 51=>95 | 20=>20 | 213=>207 | 46=>96 | 232=>214 | 233=>215 | n=>n,fun | 17=>1 | 18=>4 | 19=>5 | n=>n⟩
theorem Tryz.Ud:Go.Proofs.LaysM.n171 Tryz.prog Tryz.OD:={
 mixed:=by kernel_rfl
 f129:=Tryz.func108.trans (congrArg some (by kernel_rfl))
 f171:=Tryz.func59.trans (congrArg some (by kernel_rfl))
 f243:=Tryz.func86.trans (congrArg some (by kernel_rfl))
 f246:=Tryz.func129.trans (congrArg some (by kernel_rfl))
 f283:=Tryz.func153.trans (congrArg some (by kernel_rfl))
 f284:=Tryz.func154.trans (congrArg some (by kernel_rfl))
 f285:=Tryz.func155.trans (congrArg some (by kernel_rfl))
 f286:=Tryz.func156.trans (congrArg some (by kernel_rfl))
 f317:=Tryz.func165.trans (congrArg some (by kernel_rfl))
 f318:=Tryz.func166.trans (congrArg some (by kernel_rfl))
 f319:=Tryz.func167.trans (congrArg some (by kernel_rfl))
 f320:=Tryz.func168.trans (congrArg some (by kernel_rfl))
 f337:=Tryz.func173.trans (congrArg some (by kernel_rfl))
 f338:=Tryz.func174.trans (congrArg some (by kernel_rfl))
 t0:=Tryz.underlying0
 a0:=Tryz.isAgg0
 z0:=Tryz.sizeOf0
 v0:=Tryz.zeroValue0
 t2:=Tryz.underlying2
 a2:=Tryz.isAgg2
 z2:=Tryz.sizeOf2
 v2:=Tryz.zeroValue2
 t3:=Tryz.underlying3
 a3:=Tryz.isAgg3
 z3:=Tryz.sizeOf3
 v3:=Tryz.zeroValue3
 t4:=Tryz.underlying4
 a4:=Tryz.isAgg4
 z4:=Tryz.sizeOf4
 v4:=Tryz.zeroValue4
 t5:=Tryz.underlying5
 a5:=Tryz.isAgg5
 z5:=Tryz.sizeOf5
 v5:=Tryz.zeroValue5
 t9:=Tryz.underlying9
 a9:=Tryz.isAgg9
 z9:=Tryz.sizeOf9
 v9:=Tryz.zeroValue9
 t20:=Tryz.underlying20
 a20:=Tryz.isAgg20
 z20:=Tryz.sizeOf20
 v20:=Tryz.zeroValue20
 t37:=Tryz.underlying137
 a37:=Tryz.isAgg137
 z37:=Tryz.sizeOf137
 v37:=Tryz.zeroValue137
 t46:=Tryz.underlying96
 a46:=Tryz.isAgg96
 z46:=Tryz.sizeOf96
 v46:=Tryz.zeroValue96
 t51:=Tryz.underlying95
 a51:=Tryz.isAgg95
 z51:=Tryz.sizeOf95
 v51:=Tryz.zeroValue95
 t53:=Tryz.underlying94
 a53:=Tryz.isAgg94
 z53:=Tryz.sizeOf94
 v53:=Tryz.zeroValue94
 t171:=Tryz.underlying193
 a171:=Tryz.isAgg193
 z171:=Tryz.sizeOf193
 v171:=Tryz.zeroValue193
 t173:=Tryz.underlying195
 a173:=Tryz.isAgg195
 z173:=Tryz.sizeOf195
 v173:=Tryz.zeroValue195
 t212:=Tryz.underlying206
 a212:=Tryz.isAgg206
 z212:=Tryz.sizeOf206
 v212:=Tryz.zeroValue206
 t213:=Tryz.underlying207
 a213:=Tryz.isAgg207
 z213:=Tryz.sizeOf207
 t232:=Tryz.underlying214
 a232:=Tryz.isAgg214
 z232:=Tryz.sizeOf214
 v232:=Tryz.zeroValue214
 t233:=Tryz.underlying215
 a233:=Tryz.isAgg215
 z233:=Tryz.sizeOf215
 v233:=Tryz.zeroValue215
 g17:=by kernel_rfl
 g18:=by kernel_rfl
 g19:=by kernel_rfl
 i0:=by kernel_rfl
 i2:=by kernel_rfl
 i3:=by kernel_rfl
 i4:=by kernel_rfl
 i5:=by kernel_rfl
 i9:=by kernel_rfl
 i20:=by kernel_rfl
 i37:=by kernel_rfl
 i46:=by kernel_rfl
 i51:=by kernel_rfl
 i53:=by kernel_rfl
 i171:=by kernel_rfl
 i173:=by kernel_rfl
 i212:=by kernel_rfl
 i232:=by kernel_rfl
 i233:=by kernel_rfl
 m17:=by kernel_rfl
 m18:=by kernel_rfl
 m19:=by kernel_rfl }
def Tryz.HN:Go.Shelf.Ren:=⟨fun | 105=>61 | 212=>93 | 99=>94 | 165=>95 | 166=>96 | 170=>97 | 169=>98 | 263=>135 | 264=>136 | 206=>137 | 240=>138 | 241=>139 | 276=>158 | 277=>159 | n=>n,fun | 9=>9 | 3=>3 | 4=>4 | 20=>20 | 0=>0 | 46=>96 | 109=>133 | 5=>5 | 72=>139 | 76=>143 | 51=>95 | 146=>176 | 53=>94 | 148=>178 | 70=>136 | 37=>137 | 75=>142 | 127=>180 | 164=>198 | 80=>145 | n=>n,fun | n=>n⟩
theorem Tryz.U4:Go.Proofs.Lays.n105 Tryz.prog Tryz.HN:={
 mixed:=by kernel_rfl
 f99:=Tryz.func94.trans (congrArg some (by kernel_rfl))
 f105:=Tryz.func61.trans (congrArg some (by kernel_rfl))
 f165:=Tryz.func95.trans (congrArg some (by kernel_rfl))
 f166:=Tryz.func96.trans (congrArg some (by kernel_rfl))
 f169:=Tryz.func98.trans (congrArg some (by kernel_rfl))
 f170:=Tryz.func97.trans (congrArg some (by kernel_rfl))
 f206:=Tryz.func137.trans (congrArg some (by kernel_rfl))
 f212:=Tryz.func93.trans (congrArg some (by kernel_rfl))
 f240:=Tryz.func138.trans (congrArg some (by kernel_rfl))
 f241:=Tryz.func139.trans (congrArg some (by kernel_rfl))
 f263:=Tryz.func135.trans (congrArg some (by kernel_rfl))
 f264:=Tryz.func136.trans (congrArg some (by kernel_rfl))
 f276:=Tryz.func158.trans (congrArg some (by kernel_rfl))
 f277:=Tryz.func159.trans (congrArg some (by kernel_rfl))
 t0:=Tryz.underlying0
 a0:=Tryz.isAgg0
 z0:=Tryz.sizeOf0
 v0:=Tryz.zeroValue0
 t3:=Tryz.underlying3
 a3:=Tryz.isAgg3
 z3:=Tryz.sizeOf3
 v3:=Tryz.zeroValue3
 t4:=Tryz.underlying4
 a4:=Tryz.isAgg4
 z4:=Tryz.sizeOf4
 v4:=Tryz.zeroValue4
 t5:=Tryz.underlying5
 a5:=Tryz.isAgg5
 z5:=Tryz.sizeOf5
 v5:=Tryz.zeroValue5
 t9:=Tryz.underlying9
 a9:=Tryz.isAgg9
 z9:=Tryz.sizeOf9
 v9:=Tryz.zeroValue9
 t20:=Tryz.underlying20
 a20:=Tryz.isAgg20
 z20:=Tryz.sizeOf20
 v20:=Tryz.zeroValue20
 t37:=Tryz.underlying137
 a37:=Tryz.isAgg137
 z37:=Tryz.sizeOf137
 v37:=Tryz.zeroValue137
 t46:=Tryz.underlying96
 a46:=Tryz.isAgg96
 z46:=Tryz.sizeOf96
 v46:=Tryz.zeroValue96
 t51:=Tryz.underlying95
 a51:=Tryz.isAgg95
 z51:=Tryz.sizeOf95
 v51:=Tryz.zeroValue95
 t53:=Tryz.underlying94
 a53:=Tryz.isAgg94
 z53:=Tryz.sizeOf94
 v53:=Tryz.zeroValue94
 t70:=Tryz.underlying136
 a70:=Tryz.isAgg136
 z70:=Tryz.sizeOf136
 v70:=Tryz.zeroValue136
 t72:=Tryz.underlying139
 a72:=Tryz.isAgg139
 z72:=Tryz.sizeOf139
 v72:=Tryz.zeroValue139
 t75:=Tryz.underlying142
 a75:=Tryz.isAgg142
 z75:=Tryz.sizeOf142
 v75:=Tryz.zeroValue142
 t76:=Tryz.underlying143
 a76:=Tryz.isAgg143
 z76:=Tryz.sizeOf143
 v76:=Tryz.zeroValue143
 t109:=Tryz.underlying133
 a109:=Tryz.isAgg133
 z109:=Tryz.sizeOf133
 v109:=Tryz.zeroValue133
 t127:=Tryz.underlying180
 a127:=Tryz.isAgg180
 z127:=Tryz.sizeOf180
 v127:=Tryz.zeroValue180
 t146:=Tryz.underlying176
 a146:=Tryz.isAgg176
 z146:=Tryz.sizeOf176
 v146:=Tryz.zeroValue176
 t148:=Tryz.underlying178
 a148:=Tryz.isAgg178
 z148:=Tryz.sizeOf178
 v148:=Tryz.zeroValue178
 t164:=Tryz.underlying198
 a164:=Tryz.isAgg198
 z164:=Tryz.sizeOf198
 v164:=Tryz.zeroValue198 }
end Go.Proofs
namespace Go.Proofs
theorem Tryz.GM:Builder.Extra Tryz.prog Tryz.HN:={
 sizeBuilder:=by kernel_rfl
 liesBuilder:=by kernel_rfl
 t5:=Tryz.underlying5
 a5:=Tryz.isAgg5
 z5:=Tryz.sizeOf5
 v5:=Tryz.zeroValue5
 infoByte:=by kernel_rfl
 cellsByte:=by kernel_rfl
 sizeByte:=by kernel_rfl
 neB5:=by decide }
end Go.Proofs
namespace Go.Proofs.SeatU
open Go.Dn Go.Md Go.Proofs Go.RowKit Go.Shelf Go.Lib
def wY:aB:=⟨[.val .str,.val .str],[.val .str],fun x=>oK x.1 x.2.1⟩
theorem JY:av Tryz.prog 66:=ak (fn:=Tryz.f66) (by kernel_rfl) rfl (by decide)
theorem Kj:aJ Tryz.prog 66 wY:=by
 intro G w ow args x y hG how ha hm
 refine PT (P:=Tryz.prog) (f:=66) (m:=wY.m) ?_ G w ow args x y hG how ha hm
 intro s c r w hm
 replace hm:oK s c=some (r,()):=hm
 unfold oK at hm
 cases hb:(decide (s.length≤9223372036854775807)&&(decide (c.length<4294967281)&&c.all fun b=>decide (b.toNat<128))) with
 | false=>rw[hb] at hm;cases hm
 | true=>
  rw[hb] at hm
  simp only[cond_true,Option.some.injEq,Prod.mk.injEq,and_true] at hm
  subst hm
  simp only[Bool.and_eq_true,decide_eq_true_eq,List.all_eq_true] at hb
  have:=Any.strings_Trim_laid Tryz.U5 (by kernel_rfl) (bs s) (bs c) w (by simpa [bs,ByteArray.size] using hb.1) (by simpa [bs,ByteArray.size] using hb.2.1) (fun j b hj=>hb.2.2 b (List.mem_of_getElem? (by simpa [bs] using hj)))
  change Calls Tryz.prog 66 _ _ _ at this
  simpa [bs] using this
def kF:aB:=⟨[.val .str,.val .str],[.val tI],fun x=>strings_Compare x.1 x.2.1⟩
theorem rO:av Tryz.prog 26:=ak (fn:=Tryz.f26) (by kernel_rfl) rfl (by decide)
theorem rW:aJ Tryz.prog 26 kF:=by
 intro G w ow args x y hG how ha hm
 refine SR (P:=Tryz.prog) (f:=26) (t:=tI) (m:=kF.m) ?_ G w ow args x y hG how ha hm
 intro s c r w hm
 replace hm:strings_Compare s c=some (r,()):=hm
 unfold strings_Compare at hm
 obtain rfl:Lib.compareBytes s c=r:=congrArg (fun o=>(Option.getD o (0,())).1) hm
 have:=Any.strings_Compare Tryz.QM (bs s) (bs c) w
 refine⟨.int .i64 (Lib.compareBytes s c),fun G=> ?_,this.mono ?_⟩
 ·rfl
 ·rintro e w' ⟨he,rfl⟩
  exact⟨he,Below.refl _ _⟩
theorem UR (n:Nat) (h:n<100):Lib.decDigits n=N4 n:=by
 unfold N4
 rw[Lib.decDigits]
 by_cases h1:n<10
 ·simp[h1]
 ·rw[dif_neg h1,Lib.decDigits,dif_pos (by omega),if_neg h1];rfl
def rm:aB:=⟨[.val tI],[.val .str],fun x=>strconv_Itoa x.1⟩
theorem By:av Tryz.prog 59:=ak (fn:=Tryz.f59) (by kernel_rfl) rfl (by decide)
theorem BF:aJ Tryz.prog 59 rm:=by
 intro G w ow args x y hG how ha hm
 refine Oi (P:=Tryz.prog) (f:=59) (a:=tI) (t:= .str) (m:=rm.m) (g:=1) (by kernel_rfl) rfl ?_ G w ow args x y hG how ha hm
 intro (n:Int) (r:List UInt8) w htab hm
 replace hm:strconv_Itoa n=some (r,()):=hm
 unfold strconv_Itoa at hm
 have fin: -9223372036854775808≤n→n≤9223372036854775807→Lib.itoa n=r→∃ v,(∀ G:Gh,bL G .str r v)∧Calls Tryz.prog 59 #[Dx tI n] w fun e w'=>e= .returned v∧RowKit.Below w.heap.size w w':=by
  intro h0 h1 e
  subst e
  have:=Any.strconv_Itoa Tryz.Ud n h0 h1 w htab
  refine⟨.string (bs (Lib.itoa n)),fun G=>rfl,this.mono ?_⟩
  rintro e w' ⟨he,k,os,rfl⟩
  exact⟨he,Pv w k os⟩
 cases hb:(decide (0≤n)&&decide (n<100)) with
 | true=>
  rw[hb] at hm
  simp only[cond_true,Option.some.injEq,Prod.mk.injEq,and_true] at hm
  simp only[Bool.and_eq_true,decide_eq_true_eq] at hb
  obtain⟨k,rfl⟩:∃ k:Nat,n=k:=⟨n.toNat,by omega⟩
  refine fin (by omega) (by omega) ?_
  rw[← hm,Int.toNat_natCast, ← UR k (by omega)]
  rfl
 | false=>
  rw[hb,cond_false] at hm
  cases hc:(decide (-9223372036854775808≤n)&&decide (n≤9223372036854775807)) with
  | false=>rw[hc] at hm;cases hm
  | true=>
   rw[hc] at hm
   simp only[cond_true,Option.some.injEq,Prod.mk.injEq,and_true] at hm
   simp only[Bool.and_eq_true,decide_eq_true_eq] at hc
   exact fin hc.1 hc.2 hm
def tO:aB:=⟨[.val .str,.val tI],[.val .str],fun x=>strings_Repeat x.1 x.2.1⟩
theorem Hs:av Tryz.prog 61:=ak (fn:=Tryz.f61) (by kernel_rfl) rfl (by decide)
theorem HA:aJ Tryz.prog 61 tO:=by
 intro G w ow args x y hG how ha hm
 refine PS (P:=Tryz.prog) (f:=61) (a:= .str) (a':=tI) (t:= .str) (m:=tO.m) rfl rfl ?_ G w ow args x y hG how ha hm
 intro (s:List UInt8) (n:Int) (r:List UInt8) w hm
 replace hm:strings_Repeat s n=some (r,()):=hm
 unfold strings_Repeat at hm
 cases hb:(decide (0≤n)&&(decide (n≤9223372036854775807)&&decide (s.length*n.toNat≤140737488355328))) with
 | false=>rw[hb] at hm;cases hm
 | true=>
  rw[hb] at hm
  simp only[cond_true,Option.some.injEq,Prod.mk.injEq,and_true] at hm
  subst hm
  simp only[Bool.and_eq_true,decide_eq_true_eq] at hb
  obtain⟨k,rfl⟩:∃ k:Nat,n=k:=⟨n.toNat,by omega⟩
  have hsz:(bs s).size=s.length:=by simp[bs,ByteArray.size]
  have:=Any.strings_Repeat Tryz.U4 Tryz.GM (bs s) k w (by omega) (by rw[hsz];simpa using hb.2.2)
  refine⟨.string (bs (Lib.repeatL s k)),fun G=>rfl,this.mono ?_⟩
  rintro e w' ⟨he,hbel⟩
  exact⟨he,hbel⟩
noncomputable def wT:aB:=⟨[.val .str],[.val tI],fun x=>zD x.1⟩
theorem Dp:av Tryz.prog 89:=ak (fn:=Tryz.f89) (by kernel_rfl) rfl (by decide)
theorem DD:aJ Tryz.prog 89 wT:=ua Tryz.prog 89 [.val .str] [.val tI]
noncomputable def vr:aB:=⟨[.val .str],[.val .bool],fun x=>zg x.1⟩
theorem Ay:av Tryz.prog 91:=ak (fn:=Tryz.f91) (by kernel_rfl) rfl (by decide)
theorem AI:aJ Tryz.prog 91 vr:=ua Tryz.prog 91 [.val .str] [.val .bool]
noncomputable def AY:aB:=⟨[.val .str],[.val .bool],fun x=>D9 x.1⟩
theorem IE:av Tryz.prog 88:=ak (fn:=Tryz.f88) (by kernel_rfl) rfl (by decide)
theorem IP:aJ Tryz.prog 88 AY:=ua Tryz.prog 88 [.val .str] [.val .bool]
noncomputable def BJ:aB:=⟨[.val .str],[.val .bool],fun x=>ES x.1⟩
theorem JT:av Tryz.prog 132:=ak (fn:=Tryz.f132) (by kernel_rfl) rfl (by decide)
theorem Ke:aJ Tryz.prog 132 BJ:=ua Tryz.prog 132 [.val .str] [.val .bool]
noncomputable def AZ:aB:=⟨[.val tI,.val tI],[.val .str],fun x=>Ea x.1 x.2.1⟩
theorem IF:av Tryz.prog 90:=ak (fn:=Tryz.f90) (by kernel_rfl) rfl (by decide)
theorem IQ:aJ Tryz.prog 90 AZ:=ua Tryz.prog 90 [.val tI,.val tI] [.val .str]
end Go.Proofs.SeatU
set_option maxRecDepth 100000
namespace Go.Proofs
open Go.Shelf
def Tryz.TL:Go.Shelf.Ren:=⟨fun | 6=>24 | 15=>64 | 14=>63 | 28=>107 | 29=>108 | 20=>99 | 21=>100 | 22=>101 | 23=>102 | 24=>103 | 25=>104 | 26=>105 | 27=>106 | 46=>140 | 47=>141 | 48=>142 | 49=>143 | 50=>144 | 57=>160 | n=>n,fun | 22=>22 | 24=>36 | 25=>71 | 3=>3 | 39=>96 | 0=>0 | 53=>95 | 55=>94 | 4=>4 | 46=>148 | 45=>147 | 50=>100 | 5=>5 | 9=>9 | 66=>181 | 70=>185 | 76=>201 | 77=>202 | n=>n,fun | n=>n⟩
theorem Tryz.Wa:Go.Proofs.SlLaysF0.n6 Tryz.prog Tryz.TL:={
 mixed:=by kernel_rfl
 f6:=⟨Tryz.f24.name,by decide,Tryz.func24.trans (congrArg some (by kernel_rfl))⟩
 f14:=⟨Tryz.f63.name,by decide,Tryz.func63.trans (congrArg some (by kernel_rfl))⟩
 f15:=Tryz.func64.trans (congrArg some (by kernel_rfl))
 f20:=⟨Tryz.f99.name,by decide,Tryz.func99.trans (congrArg some (by kernel_rfl))⟩
 f21:=⟨Tryz.f100.name,by decide,Tryz.func100.trans (congrArg some (by kernel_rfl))⟩
 f22:=⟨Tryz.f101.name,by decide,Tryz.func101.trans (congrArg some (by kernel_rfl))⟩
 f23:=⟨Tryz.f102.name,by decide,Tryz.func102.trans (congrArg some (by kernel_rfl))⟩
 f24:=⟨Tryz.f103.name,by decide,Tryz.func103.trans (congrArg some (by kernel_rfl))⟩
 f25:=⟨Tryz.f104.name,by decide,Tryz.func104.trans (congrArg some (by kernel_rfl))⟩
 f26:=⟨Tryz.f105.name,by decide,Tryz.func105.trans (congrArg some (by kernel_rfl))⟩
 f27:=⟨Tryz.f106.name,by decide,Tryz.func106.trans (congrArg some (by kernel_rfl))⟩
 f28:=Tryz.func107.trans (congrArg some (by kernel_rfl))
 f29:=Tryz.func108.trans (congrArg some (by kernel_rfl))
 f46:=⟨Tryz.f140.name,by decide,Tryz.func140.trans (congrArg some (by kernel_rfl))⟩
 f47:=Tryz.func141.trans (congrArg some (by kernel_rfl))
 f48:=Tryz.func142.trans (congrArg some (by kernel_rfl))
 f49:=⟨Tryz.f143.name,by decide,Tryz.func143.trans (congrArg some (by kernel_rfl))⟩
 f50:=⟨Tryz.f144.name,by decide,Tryz.func144.trans (congrArg some (by kernel_rfl))⟩
 f57:=⟨Tryz.f160.name,by decide,Tryz.func160.trans (congrArg some (by kernel_rfl))⟩
 t0:=Tryz.underlying0
 a0:=Tryz.isAgg0
 z0:=Tryz.sizeOf0
 v0:=Tryz.zeroValue0
 t3:=Tryz.underlying3
 a3:=Tryz.isAgg3
 z3:=Tryz.sizeOf3
 v3:=Tryz.zeroValue3
 t4:=Tryz.underlying4
 a4:=Tryz.isAgg4
 z4:=Tryz.sizeOf4
 v4:=Tryz.zeroValue4
 t5:=Tryz.underlying5
 a5:=Tryz.isAgg5
 z5:=Tryz.sizeOf5
 v5:=Tryz.zeroValue5
 t9:=Tryz.underlying9
 a9:=Tryz.isAgg9
 z9:=Tryz.sizeOf9
 v9:=Tryz.zeroValue9
 t22:=Tryz.underlying22
 a22:=Tryz.isAgg22
 z22:=Tryz.sizeOf22
 v22:=Tryz.zeroValue22
 t25:=Tryz.underlying71
 a25:=Tryz.isAgg71
 z25:=Tryz.sizeOf71
 v25:=Tryz.zeroValue71
 t39:=Tryz.underlying96
 a39:=Tryz.isAgg96
 z39:=Tryz.sizeOf96
 v39:=Tryz.zeroValue96
 t45:=Tryz.underlying147
 a45:=Tryz.isAgg147
 z45:=Tryz.sizeOf147
 v45:=Tryz.zeroValue147
 t46:=Tryz.underlying148
 a46:=Tryz.isAgg148
 z46:=Tryz.sizeOf148
 v46:=Tryz.zeroValue148
 t50:=Tryz.underlying100
 a50:=Tryz.isAgg100
 z50:=Tryz.sizeOf100
 v50:=Tryz.zeroValue100
 t53:=Tryz.underlying95
 a53:=Tryz.isAgg95
 z53:=Tryz.sizeOf95
 v53:=Tryz.zeroValue95
 t55:=Tryz.underlying94
 a55:=Tryz.isAgg94
 z55:=Tryz.sizeOf94
 v55:=Tryz.zeroValue94
 t66:=Tryz.underlying181
 a66:=Tryz.isAgg181
 z66:=Tryz.sizeOf181
 v66:=Tryz.zeroValue181
 t70:=Tryz.underlying185
 a70:=Tryz.isAgg185
 z70:=Tryz.sizeOf185
 v70:=Tryz.zeroValue185
 t76:=Tryz.underlying201
 a76:=Tryz.isAgg201
 z76:=Tryz.sizeOf201
 v76:=Tryz.zeroValue201
 t77:=Tryz.underlying202
 a77:=Tryz.isAgg202
 z77:=Tryz.sizeOf202
 v77:=Tryz.zeroValue202 }
end Go.Proofs
namespace Go.Proofs.SeatU
open Go.Dn Go.Md Go.Proofs Go.RowKit Go.Shelf Go.Lib Go.Sort
theorem FW {G:Gh} {x:aa} {a:List Value} (h:aD G aq x a):∃ r:List Value,r.length=4∧a= .string (bs x.1)::r:=by
 have hlen:=aD.len h
 obtain⟨c1,r1,e1,h1,_⟩:=h
 have g1:c1=[.string (bs x.1)]:=h1
 subst g1;subst e1
 refine⟨r1, ?_,rfl⟩
 have:(Ty.size aq)=5:=rfl
 simp at hlen
 omega
theorem SB (s c:List UInt8) (p q:List Value) (hp:p.length=4) (hq:q.length=4) (w:World):
 Calls Tryz.prog 25 #[.agg (.string (bs s)::p).toArray,.agg (.string (bs c)::q).toArray] w fun e w'=>e= .returned (.int .i64 (Lib.compareBytes s c))∧∃ q os,w'=grow (w.drewN q) os:=by
 have mixed:Tryz.prog.follows .mixedOrders=true:=by kernel_rfl
 have aP:=Tryz.isAgg36;have zP:=Tryz.sizeOf36
 obtain⟨p1,p2,p3,p4,rfl⟩:∃ p1 p2 p3 p4,p=[p1,p2,p3,p4]:=by
  match p,hp with
  | [p1,p2,p3,p4],_=>exact⟨p1,p2,p3,p4,rfl⟩
 obtain⟨q1,q2,q3,q4,rfl⟩:∃ q1 q2 q3 q4,q=[q1,q2,q3,q4]:=by
  match q,hq with
  | [q1,q2,q3,q4],_=>exact⟨q1,q2,q3,q4,rfl⟩
 have hcmp:∀ w,Calls Tryz.prog 26 #[.string (bs s),.string (bs c)] w fun e w'=>e= .returned (.int .i64 (Lib.compareBytes s c))∧w'=w:=fun w=>by
  have:=Any.strings_Compare Tryz.QM (bs s) (bs c) w
  change Calls Tryz.prog 26 _ _ _ at this
  simpa [bs] using this
 go_enter Tryz.func25,Tryz.ntmps25
 go_wp2_with (go_at_fn 26;refine (hcmp _).mono ?_;rintro e w' ⟨rfl,rfl⟩)
 all_goals (refine (hcmp _).mono ?_;rintro e w2 ⟨rfl,rfl⟩)
 all_goals go_wp2
 all_goals go_ret
 refine⟨rfl,0,_,by rw[alloc_eq_grow,alloc_eq_grow,grow_grow];rfl⟩
theorem Wn:SWO (ltOf fun a b:aa=>Lib.compareBytes a.1 b.1):=by
 have key:∀ a b:aa,ltOf (fun a b:aa=>Lib.compareBytes a.1 b.1) a b=Op.bytesLess a.1 b.1:=fun a b=>by
  show decide (Lib.compareBytes a.1 b.1<0)=_
  rw[Bool.eq_iff_iff,decide_eq_true_iff,pn]
 refine⟨fun x=> ?_,fun x y z h1 h2=> ?_,fun x y z h1 h2=> ?_⟩
 ·rw[key];exact cr _
 ·rw[key] at *;exact iU h1 h2
 ·rw[key] at*
  cases h:Op.bytesLess x.1 z.1 with
  | false=>rfl
  | true=>
   rcases rH x.1 y.1 with g | g | g
   ·rw[g] at h1;cases h1
   ·rw[g] at h;rw[h] at h2;cases h2
   ·have:=iU g h;rw[this] at h2;cases h2
theorem T0:KM Tryz.prog 25 aq (fun _=>true) (fun a b=>Lib.compareBytes a.1 b.1):=by
 intro G x y a b ha hb _ _ w
 obtain⟨p,hp,rfl⟩:=FW ha
 obtain⟨q,hq,rfl⟩:=FW hb
 exact SB _ _ p q hp hq w
noncomputable def nT:aB:=O8 36 aq 25 (fun _=>true) (fun a b=>Lib.compareBytes a.1 b.1)
theorem xe:av Tryz.prog 24:=ak (fn:=Tryz.f24) (by kernel_rfl) rfl (by decide)
theorem xh:aJ Tryz.prog 24 nT:=Uu Tryz.Wa (t:=aq) Tryz.isAgg36 Tryz.sizeOf36 Wn T0 (enters_of Tryz.func25 (by kernel_rfl) rfl)
end Go.Proofs.SeatU
