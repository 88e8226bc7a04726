/-
  Functions of the library by contracts. No condition.
-/
import Derived.Test.YtnamfglkolhhgabGreatDoorYo
import Derived.Test.YtnamfglkolhhgabGreatDoorYd
import Derived.Test.YtnamfglkolhhgabGreatDoorProg
import Derived.Shelf.LaysM
import Derived.Shelf.Strings.SlTrimAscii
import Derived.Shelf.Small.Strs
import Derived.Shelf.Strconv.Itoa3
import Derived.Shelf.Strings.Repeat
import Derived.Test.YtnamfglkolhhgabGreatDoorYk
import Derived.WalkKit
import Derived.LoopN
import Derived.StillTailTactics
set_option linter.all false
namespace Go.Proofs
open Go.Shelf
def Tryz.Sr:Go.Shelf.Ren:=⟨fun | 160=>73 | 232=>126 | 231=>125 | 227=>127 | 234=>129 | 233=>128 | 236=>131 | 235=>130 | 228=>166 | 271=>169 | 151=>168 | 197=>167 | 120=>191 | 152=>190 | 260=>189 | 137=>196 | 119=>197 | 224=>198 | 225=>199 | 217=>202 | 266=>203 | n=>n,fun | 9=>9 | 4=>4 | 3=>3 | 5=>5 | 117=>156 | 116=>155 | 0=>0 | 124=>159 | 21=>21 | 105=>182 | 46=>96 | 119=>207 | 139=>210 | 138=>209 | n=>n,fun | 3=>2 | 4=>3 | n=>n⟩
theorem Tryz.XG:Go.Proofs.Lays.n160 Tryz.prog Tryz.Sr:={
 mixed:=by kernel_rfl
 f119:=Tryz.func197.trans (congrArg some (by kernel_rfl))
 f120:=Tryz.func191.trans (congrArg some (by kernel_rfl))
 f137:=Tryz.func196.trans (congrArg some (by kernel_rfl))
 f151:=Tryz.func168.trans (congrArg some (by kernel_rfl))
 f152:=Tryz.func190.trans (congrArg some (by kernel_rfl))
 f160:=Tryz.func73.trans (congrArg some (by kernel_rfl))
 f197:=Tryz.func167.trans (congrArg some (by kernel_rfl))
 f217:=Tryz.func202.trans (congrArg some (by kernel_rfl))
 f224:=Tryz.func198.trans (congrArg some (by kernel_rfl))
 f225:=Tryz.func199.trans (congrArg some (by kernel_rfl))
 f227:=Tryz.func127.trans (congrArg some (by kernel_rfl))
 f228:=Tryz.func166.trans (congrArg some (by kernel_rfl))
 f231:=Tryz.func125.trans (congrArg some (by kernel_rfl))
 f232:=Tryz.func126.trans (congrArg some (by kernel_rfl))
 f233:=Tryz.func128.trans (congrArg some (by kernel_rfl))
 f234:=Tryz.func129.trans (congrArg some (by kernel_rfl))
 f235:=Tryz.func130.trans (congrArg some (by kernel_rfl))
 f236:=Tryz.func131.trans (congrArg some (by kernel_rfl))
 f260:=Tryz.func189.trans (congrArg some (by kernel_rfl))
 f266:=Tryz.func203.trans (congrArg some (by kernel_rfl))
 f271:=Tryz.func169.trans (congrArg some (by kernel_rfl))
 t0:=Tryz.underlying0
 a0:=Tryz.isAgg0
 z0:=Tryz.sizeOf0
 v0:=Tryz.zeroValue0
 t3:=Tryz.underlying3
 a3:=Tryz.isAgg3
 z3:=Tryz.sizeOf3
 v3:=Tryz.zeroValue3
 t4:=Tryz.underlying4
 a4:=Tryz.isAgg4
 z4:=Tryz.sizeOf4
 v4:=Tryz.zeroValue4
 t5:=Tryz.underlying5
 a5:=Tryz.isAgg5
 z5:=Tryz.sizeOf5
 v5:=Tryz.zeroValue5
 t9:=Tryz.underlying9
 a9:=Tryz.isAgg9
 z9:=Tryz.sizeOf9
 v9:=Tryz.zeroValue9
 t21:=Tryz.underlying21
 a21:=Tryz.isAgg21
 z21:=Tryz.sizeOf21
 v21:=Tryz.zeroValue21
 t46:=Tryz.underlying96
 a46:=Tryz.isAgg96
 z46:=Tryz.sizeOf96
 v46:=Tryz.zeroValue96
 t105:=Tryz.underlying182
 a105:=Tryz.isAgg182
 z105:=Tryz.sizeOf182
 v105:=Tryz.zeroValue182
 t116:=Tryz.underlying155
 a116:=Tryz.isAgg155
 z116:=Tryz.sizeOf155
 t117:=Tryz.underlying156
 a117:=Tryz.isAgg156
 z117:=Tryz.sizeOf156
 v117:=Tryz.zeroValue156
 t119:=Tryz.underlying207
 a119:=Tryz.isAgg207
 z119:=Tryz.sizeOf207
 t124:=Tryz.underlying159
 a124:=Tryz.isAgg159
 z124:=Tryz.sizeOf159
 v124:=Tryz.zeroValue159
 t138:=Tryz.underlying209
 a138:=Tryz.isAgg209
 z138:=Tryz.sizeOf209
 v138:=Tryz.zeroValue209
 t139:=Tryz.underlying210
 a139:=Tryz.isAgg210
 z139:=Tryz.sizeOf210
 v139:=Tryz.zeroValue210
 g3:=by kernel_rfl
 g4:=by kernel_rfl }
def Tryz.Sq:Go.Shelf.Ren:=⟨fun | 106=>30 | 213=>65 | 265=>108 | n=>n,fun | 9=>9 | 3=>3 | n=>n,fun | n=>n⟩
theorem Tryz.Tj:Go.Proofs.Lays.n106 Tryz.prog Tryz.Sq:={
 mixed:=by kernel_rfl
 f106:=Tryz.func30.trans (congrArg some (by kernel_rfl))
 f213:=Tryz.func65.trans (congrArg some (by kernel_rfl))
 f265:=Tryz.func108.trans (congrArg some (by kernel_rfl))
 t3:=Tryz.underlying3
 a3:=Tryz.isAgg3
 z3:=Tryz.sizeOf3
 v3:=Tryz.zeroValue3
 t9:=Tryz.underlying9
 a9:=Tryz.isAgg9
 z9:=Tryz.sizeOf9
 v9:=Tryz.zeroValue9 }
def Tryz.Q0:Go.Shelf.Ren:=⟨fun | 171=>69 | 243=>112 | 246=>155 | 283=>182 | 284=>183 | 285=>184 | 286=>185 | 129=>107 | 317=>192 | 318=>193 | 319=>194 | 320=>195 | 337=>200 | 338=>201 | n=>n,fun | 3=>3 | 9=>9 | 2=>2 | 4=>4 | 171=>196 | 0=>0 | 53=>134 | 37=>143 | 5=>5 | 173=>198 | 212=>205 | 51=>132 | 20=>20 | 213=>206 | 46=>96 | 232=>213 | 233=>214 | n=>n,fun | 17=>1 | 18=>4 | 19=>5 | n=>n⟩
theorem Tryz.WE:Go.Proofs.LaysM.n171 Tryz.prog Tryz.Q0:={
 mixed:=by kernel_rfl
 f129:=Tryz.func107.trans (congrArg some (by kernel_rfl))
 f171:=Tryz.func69.trans (congrArg some (by kernel_rfl))
 f243:=Tryz.func112.trans (congrArg some (by kernel_rfl))
 f246:=Tryz.func155.trans (congrArg some (by kernel_rfl))
 f283:=Tryz.func182.trans (congrArg some (by kernel_rfl))
 f284:=Tryz.func183.trans (congrArg some (by kernel_rfl))
 f285:=Tryz.func184.trans (congrArg some (by kernel_rfl))
 f286:=Tryz.func185.trans (congrArg some (by kernel_rfl))
 f317:=Tryz.func192.trans (congrArg some (by kernel_rfl))
 f318:=Tryz.func193.trans (congrArg some (by kernel_rfl))
 f319:=Tryz.func194.trans (congrArg some (by kernel_rfl))
 f320:=Tryz.func195.trans (congrArg some (by kernel_rfl))
 f337:=Tryz.func200.trans (congrArg some (by kernel_rfl))
 f338:=Tryz.func201.trans (congrArg some (by kernel_rfl))
 t0:=Tryz.underlying0
 a0:=Tryz.isAgg0
 z0:=Tryz.sizeOf0
 v0:=Tryz.zeroValue0
 t2:=Tryz.underlying2
 a2:=Tryz.isAgg2
 z2:=Tryz.sizeOf2
 v2:=Tryz.zeroValue2
 t3:=Tryz.underlying3
 a3:=Tryz.isAgg3
 z3:=Tryz.sizeOf3
 v3:=Tryz.zeroValue3
 t4:=Tryz.underlying4
 a4:=Tryz.isAgg4
 z4:=Tryz.sizeOf4
 v4:=Tryz.zeroValue4
 t5:=Tryz.underlying5
 a5:=Tryz.isAgg5
 z5:=Tryz.sizeOf5
 v5:=Tryz.zeroValue5
 t9:=Tryz.underlying9
 a9:=Tryz.isAgg9
 z9:=Tryz.sizeOf9
 v9:=Tryz.zeroValue9
 t20:=Tryz.underlying20
 a20:=Tryz.isAgg20
 z20:=Tryz.sizeOf20
 v20:=Tryz.zeroValue20
 t37:=Tryz.underlying143
 a37:=Tryz.isAgg143
 z37:=Tryz.sizeOf143
 v37:=Tryz.zeroValue143
 t46:=Tryz.underlying96
 a46:=Tryz.isAgg96
 z46:=Tryz.sizeOf96
 v46:=Tryz.zeroValue96
 t51:=Tryz.underlying132
 a51:=Tryz.isAgg132
 z51:=Tryz.sizeOf132
 v51:=Tryz.zeroValue132
 t53:=Tryz.underlying134
 a53:=Tryz.isAgg134
 z53:=Tryz.sizeOf134
 v53:=Tryz.zeroValue134
 t171:=Tryz.underlying196
 a171:=Tryz.isAgg196
 z171:=Tryz.sizeOf196
 v171:=Tryz.zeroValue196
 t173:=Tryz.underlying198
 a173:=Tryz.isAgg198
 z173:=Tryz.sizeOf198
 v173:=Tryz.zeroValue198
 t212:=Tryz.underlying205
 a212:=Tryz.isAgg205
 z212:=Tryz.sizeOf205
 v212:=Tryz.zeroValue205
 t213:=Tryz.underlying206
 a213:=Tryz.isAgg206
 z213:=Tryz.sizeOf206
 t232:=Tryz.underlying213
 a232:=Tryz.isAgg213
 z232:=Tryz.sizeOf213
 v232:=Tryz.zeroValue213
 t233:=Tryz.underlying214
 a233:=Tryz.isAgg214
 z233:=Tryz.sizeOf214
 v233:=Tryz.zeroValue214
 g17:=by kernel_rfl
 g18:=by kernel_rfl
 g19:=by kernel_rfl
 i0:=by kernel_rfl
 i2:=by kernel_rfl
 i3:=by kernel_rfl
 i4:=by kernel_rfl
 i5:=by kernel_rfl
 i9:=by kernel_rfl
 i20:=by kernel_rfl
 i37:=by kernel_rfl
 i46:=by kernel_rfl
 i51:=by kernel_rfl
 i53:=by kernel_rfl
 i171:=by kernel_rfl
 i173:=by kernel_rfl
 i212:=by kernel_rfl
 i232:=by kernel_rfl
 i233:=by kernel_rfl
 m17:=by kernel_rfl
 m18:=by kernel_rfl
 m19:=by kernel_rfl }
def Tryz.Ir:Go.Shelf.Ren:=⟨fun | 105=>71 | 212=>119 | 99=>120 | 165=>121 | 166=>122 | 170=>123 | 169=>124 | 263=>161 | 264=>162 | 206=>163 | 240=>164 | 241=>165 | 276=>187 | 277=>188 | n=>n,fun | 9=>9 | 3=>3 | 4=>4 | 20=>20 | 0=>0 | 46=>96 | 109=>139 | 5=>5 | 72=>145 | 76=>149 | 51=>132 | 146=>176 | 53=>134 | 148=>178 | 70=>142 | 37=>143 | 75=>148 | 127=>180 | 164=>200 | 80=>152 | n=>n,fun | n=>n⟩
theorem Tryz.XF:Go.Proofs.Lays.n105 Tryz.prog Tryz.Ir:={
 mixed:=by kernel_rfl
 f99:=Tryz.func120.trans (congrArg some (by kernel_rfl))
 f105:=Tryz.func71.trans (congrArg some (by kernel_rfl))
 f165:=Tryz.func121.trans (congrArg some (by kernel_rfl))
 f166:=Tryz.func122.trans (congrArg some (by kernel_rfl))
 f169:=Tryz.func124.trans (congrArg some (by kernel_rfl))
 f170:=Tryz.func123.trans (congrArg some (by kernel_rfl))
 f206:=Tryz.func163.trans (congrArg some (by kernel_rfl))
 f212:=Tryz.func119.trans (congrArg some (by kernel_rfl))
 f240:=Tryz.func164.trans (congrArg some (by kernel_rfl))
 f241:=Tryz.func165.trans (congrArg some (by kernel_rfl))
 f263:=Tryz.func161.trans (congrArg some (by kernel_rfl))
 f264:=Tryz.func162.trans (congrArg some (by kernel_rfl))
 f276:=Tryz.func187.trans (congrArg some (by kernel_rfl))
 f277:=Tryz.func188.trans (congrArg some (by kernel_rfl))
 t0:=Tryz.underlying0
 a0:=Tryz.isAgg0
 z0:=Tryz.sizeOf0
 v0:=Tryz.zeroValue0
 t3:=Tryz.underlying3
 a3:=Tryz.isAgg3
 z3:=Tryz.sizeOf3
 v3:=Tryz.zeroValue3
 t4:=Tryz.underlying4
 a4:=Tryz.isAgg4
 z4:=Tryz.sizeOf4
 v4:=Tryz.zeroValue4
 t5:=Tryz.underlying5
 a5:=Tryz.isAgg5
 z5:=Tryz.sizeOf5
 v5:=Tryz.zeroValue5
 t9:=Tryz.underlying9
 a9:=Tryz.isAgg9
 z9:=Tryz.sizeOf9
 v9:=Tryz.zeroValue9
 t20:=Tryz.underlying20
 a20:=Tryz.isAgg20
 z20:=Tryz.sizeOf20
 v20:=Tryz.zeroValue20
 t37:=Tryz.underlying143
 a37:=Tryz.isAgg143
 z37:=Tryz.sizeOf143
 v37:=Tryz.zeroValue143
 t46:=Tryz.underlying96
 a46:=Tryz.isAgg96
 z46:=Tryz.sizeOf96
 v46:=Tryz.zeroValue96
 t51:=Tryz.underlying132
 a51:=Tryz.isAgg132
 z51:=Tryz.sizeOf132
 v51:=Tryz.zeroValue132
 t53:=Tryz.underlying134
 a53:=Tryz.isAgg134
 z53:=Tryz.sizeOf134
 v53:=Tryz.zeroValue134
 t70:=Tryz.underlying142
 a70:=Tryz.isAgg142
 z70:=Tryz.sizeOf142
 v70:=Tryz.zeroValue142
 t72:=Tryz.underlying145
 a72:=Tryz.isAgg145
 z72:=Tryz.sizeOf145
 v72:=Tryz.zeroValue145
 t75:=Tryz.underlying148
 a75:=Tryz.isAgg148
 z75:=Tryz.sizeOf148
 v75:=Tryz.zeroValue148
 t76:=Tryz.underlying149
 a76:=Tryz.isAgg149
 z76:=Tryz.sizeOf149
 v76:=Tryz.zeroValue149
 t109:=Tryz.underlying139
 a109:=Tryz.isAgg139
 z109:=Tryz.sizeOf139
 v109:=Tryz.zeroValue139
 t127:=Tryz.underlying180
 a127:=Tryz.isAgg180
 z127:=Tryz.sizeOf180
 v127:=Tryz.zeroValue180
 t146:=Tryz.underlying176
 a146:=Tryz.isAgg176
 z146:=Tryz.sizeOf176
 v146:=Tryz.zeroValue176
 t148:=Tryz.underlying178
 a148:=Tryz.isAgg178
 z148:=Tryz.sizeOf178
 v148:=Tryz.zeroValue178
 t164:=Tryz.underlying200
 a164:=Tryz.isAgg200
 z164:=Tryz.sizeOf200
 v164:=Tryz.zeroValue200 }
end Go.Proofs
namespace Go.Proofs
theorem Tryz.HE:Builder.Extra Tryz.prog Tryz.Ir:={
 sizeBuilder:=by kernel_rfl
 liesBuilder:=by kernel_rfl
 t5:=Tryz.underlying5
 a5:=Tryz.isAgg5
 z5:=Tryz.sizeOf5
 v5:=Tryz.zeroValue5
 infoByte:=by kernel_rfl
 cellsByte:=by kernel_rfl
 sizeByte:=by kernel_rfl
 neB5:=by decide }
end Go.Proofs
namespace Go.Proofs.SeatU
open Go.Dn Go.Md Go.Proofs Go.RowKit Go.Shelf Go.Lib
def vl:ax:=⟨[.val .str,.val .str],[.val .str],fun x=>jd x.1 x.2.1⟩
theorem KE:aq Tryz.prog 73:=ak (fn:=Tryz.f73) (by kernel_rfl) rfl (by decide)
theorem K1:aD Tryz.prog 73 vl:=by
 intro G w ow args x y hG how ha hm
 refine Sd (P:=Tryz.prog) (f:=73) (m:=vl.m) ?_ G w ow args x y hG how ha hm
 intro s c r w hm
 replace hm:jd s c=some (r,()):=hm
 unfold jd at hm
 cases hb:(decide (s.length≤9223372036854775807)&&(decide (c.length<4294967281)&&c.all fun b=>decide (b.toNat<128))) with
 | false=>rw[hb] at hm;cases hm
 | true=>
  rw[hb] at hm
  simp only[cond_true,Option.some.injEq,Prod.mk.injEq,and_true] at hm
  subst hm
  simp only[Bool.and_eq_true,decide_eq_true_eq,List.all_eq_true] at hb
  have:=Any.strings_Trim_laid Tryz.XG (by kernel_rfl) (bs s) (bs c) w (by simpa [bs,ByteArray.size] using hb.1) (by simpa [bs,ByteArray.size] using hb.2.1) (fun j b hj=>hb.2.2 b (List.mem_of_getElem? (by simpa [bs] using hj)))
  change Calls Tryz.prog 73 _ _ _ at this
  simpa [bs] using this
def jc:ax:=⟨[.val .str,.val .str],[.val tI],fun x=>strings_Compare x.1 x.2.1⟩
theorem qo:aq Tryz.prog 30:=ak (fn:=Tryz.f30) (by kernel_rfl) rfl (by decide)
theorem qw:aD Tryz.prog 30 jc:=by
 intro G w ow args x y hG how ha hm
 refine Vn (P:=Tryz.prog) (f:=30) (t:=tI) (m:=jc.m) ?_ G w ow args x y hG how ha hm
 intro s c r w hm
 replace hm:strings_Compare s c=some (r,()):=hm
 unfold strings_Compare at hm
 obtain rfl:Lib.compareBytes s c=r:=congrArg (fun o=>(Option.getD o (0,())).1) hm
 have:=Any.strings_Compare Tryz.Tj (bs s) (bs c) w
 refine⟨.int .i64 (Lib.compareBytes s c),fun G=> ?_,this.mono ?_⟩
 ·rfl
 ·rintro e w' ⟨he,rfl⟩
  exact⟨he,Below.refl _ _⟩
theorem Xp (n:Nat) (h:n<100):Lib.decDigits n=Wp n:=by
 unfold Wp
 rw[Lib.decDigits]
 by_cases h1:n<10
 ·simp[h1]
 ·rw[dif_neg h1,Lib.decDigits,dif_pos (by omega),if_neg h1];rfl
def qc:ax:=⟨[.val tI],[.val .str],fun x=>strconv_Itoa x.1⟩
theorem Bo:aq Tryz.prog 69:=ak (fn:=Tryz.f69) (by kernel_rfl) rfl (by decide)
theorem Bt:aD Tryz.prog 69 qc:=by
 intro G w ow args x y hG how ha hm
 refine Qw (P:=Tryz.prog) (f:=69) (a:=tI) (t:= .str) (m:=qc.m) (g:=1) (by kernel_rfl) rfl ?_ G w ow args x y hG how ha hm
 intro (n:Int) (r:List UInt8) w htab hm
 replace hm:strconv_Itoa n=some (r,()):=hm
 unfold strconv_Itoa at hm
 have fin: -9223372036854775808≤n→n≤9223372036854775807→Lib.itoa n=r→∃ v,(∀ G:Gh,bD G .str r v)∧Calls Tryz.prog 69 #[DQ tI n] w fun e w'=>e= .returned v∧RowKit.Below w.heap.size w w':=by
  intro h0 h1 e
  subst e
  have:=Any.strconv_Itoa Tryz.WE n h0 h1 w htab
  refine⟨.string (bs (Lib.itoa n)),fun G=>rfl,this.mono ?_⟩
  rintro e w' ⟨he,k,os,rfl⟩
  exact⟨he,RL w k os⟩
 cases hb:(decide (0≤n)&&decide (n<100)) with
 | true=>
  rw[hb] at hm
  simp only[cond_true,Option.some.injEq,Prod.mk.injEq,and_true] at hm
  simp only[Bool.and_eq_true,decide_eq_true_eq] at hb
  obtain⟨k,rfl⟩:∃ k:Nat,n=k:=⟨n.toNat,by omega⟩
  refine fin (by omega) (by omega) ?_
  rw[← hm,Int.toNat_natCast, ← Xp k (by omega)]
  rfl
 | false=>
  rw[hb,cond_false] at hm
  cases hc:(decide (-9223372036854775808≤n)&&decide (n≤9223372036854775807)) with
  | false=>rw[hc] at hm;cases hm
  | true=>
   rw[hc] at hm
   simp only[cond_true,Option.some.injEq,Prod.mk.injEq,and_true] at hm
   simp only[Bool.and_eq_true,decide_eq_true_eq] at hc
   exact fin hc.1 hc.2 hm
def rN:ax:=⟨[.val .str,.val tI],[.val .str],fun x=>strings_Repeat x.1 x.2.1⟩
theorem HY:aq Tryz.prog 71:=ak (fn:=Tryz.f71) (by kernel_rfl) rfl (by decide)
theorem H9:aD Tryz.prog 71 rN:=by
 intro G w ow args x y hG how ha hm
 refine Sc (P:=Tryz.prog) (f:=71) (a:= .str) (a':=tI) (t:= .str) (m:=rN.m) rfl rfl ?_ G w ow args x y hG how ha hm
 intro (s:List UInt8) (n:Int) (r:List UInt8) w hm
 replace hm:strings_Repeat s n=some (r,()):=hm
 unfold strings_Repeat at hm
 cases hb:(decide (0≤n)&&(decide (n≤9223372036854775807)&&decide (s.length*n.toNat≤140737488355328))) with
 | false=>rw[hb] at hm;cases hm
 | true=>
  rw[hb] at hm
  simp only[cond_true,Option.some.injEq,Prod.mk.injEq,and_true] at hm
  subst hm
  simp only[Bool.and_eq_true,decide_eq_true_eq] at hb
  obtain⟨k,rfl⟩:∃ k:Nat,n=k:=⟨n.toNat,by omega⟩
  have hsz:(bs s).size=s.length:=by simp[bs,ByteArray.size]
  have:=Any.strings_Repeat Tryz.XF Tryz.HE (bs s) k w (by omega) (by rw[hsz];simpa using hb.2.2)
  refine⟨.string (bs (Lib.repeatL s k)),fun G=>rfl,this.mono ?_⟩
  rintro e w' ⟨he,hbel⟩
  exact⟨he,hbel⟩
noncomputable def vg:ax:=⟨[.val .str],[.val tI],fun x=>yL x.1⟩
theorem DI:aq Tryz.prog 115:=ak (fn:=Tryz.f115) (by kernel_rfl) rfl (by decide)
theorem DX:aD Tryz.prog 115 vg:=iJ Tryz.prog 115 [.val .str] [.val tI]
noncomputable def tM:ax:=⟨[.val .str],[.val .bool],fun x=>yf x.1⟩
theorem z8:aq Tryz.prog 117:=ak (fn:=Tryz.f117) (by kernel_rfl) rfl (by decide)
theorem Ag:aD Tryz.prog 117 tM:=iJ Tryz.prog 117 [.val .str] [.val .bool]
noncomputable def AH:ax:=⟨[.val .str],[.val .bool],fun x=>Ez x.1⟩
theorem Ja:aq Tryz.prog 114:=ak (fn:=Tryz.f114) (by kernel_rfl) rfl (by decide)
theorem Jk:aD Tryz.prog 114 AH:=iJ Tryz.prog 114 [.val .str] [.val .bool]
noncomputable def BC:ax:=⟨[.val .str],[.val .bool],fun x=>Fo x.1⟩
theorem Ky:aq Tryz.prog 158:=ak (fn:=Tryz.f158) (by kernel_rfl) rfl (by decide)
theorem KV:aD Tryz.prog 158 BC:=iJ Tryz.prog 158 [.val .str] [.val .bool]
noncomputable def AI:ax:=⟨[.val tI,.val tI],[.val .str],fun x=>EA x.1 x.2.1⟩
theorem Jb:aq Tryz.prog 116:=ak (fn:=Tryz.f116) (by kernel_rfl) rfl (by decide)
theorem Jl:aD Tryz.prog 116 AI:=iJ Tryz.prog 116 [.val tI,.val tI] [.val .str]
noncomputable def BE:ax:=⟨[.val .str,.val .bool],[.val .bool],fun x=>Av x.1 x.2.1⟩
theorem KC:aq Tryz.prog 173:=ak (fn:=Tryz.f173) (by kernel_rfl) rfl (by decide)
theorem KZ:aD Tryz.prog 173 BE:=iJ Tryz.prog 173 [.val .str,.val .bool] [.val .bool]
noncomputable def BF:ax:=⟨[.val .str,.val tI],[.val tI],fun x=>GN x.1 x.2.1⟩
theorem KD:aq Tryz.prog 174:=ak (fn:=Tryz.f174) (by kernel_rfl) rfl (by decide)
theorem K0:aD Tryz.prog 174 BF:=iJ Tryz.prog 174 [.val .str,.val tI] [.val tI]
noncomputable def Dc:ax:=⟨[.val .str],[.val (.int .u8)],fun x=>IA x.1⟩
theorem Mm:aq Tryz.prog 176:=ak (fn:=Tryz.f176) (by kernel_rfl) rfl (by decide)
theorem MJ:aD Tryz.prog 176 Dc:=iJ Tryz.prog 176 [.val .str] [.val (.int .u8)]
noncomputable def GW:ax:=⟨[.val .str],[.val .str],fun x=>NS x.1⟩
theorem QJ:aq Tryz.prog 175:=ak (fn:=Tryz.f175) (by kernel_rfl) rfl (by decide)
theorem Rf:aD Tryz.prog 175 GW:=iJ Tryz.prog 175 [.val .str] [.val .str]
end Go.Proofs.SeatU
set_option maxRecDepth 100000
namespace Go.Proofs
open Go.Shelf
def Tryz.Fh:Go.Shelf.Ren:=⟨fun | 6=>28 | 15=>64 | 14=>63 | 28=>106 | 29=>107 | 20=>98 | 21=>99 | 22=>100 | 23=>101 | 24=>102 | 25=>103 | 26=>104 | 27=>105 | 46=>148 | 47=>149 | 48=>150 | 49=>151 | 50=>152 | 57=>180 | n=>n,fun | 22=>22 | 24=>42 | 25=>58 | 3=>3 | 39=>96 | 0=>0 | 53=>132 | 55=>134 | 4=>4 | 46=>126 | 45=>125 | 50=>34 | 5=>5 | 9=>9 | 66=>167 | 70=>171 | 76=>192 | 77=>193 | n=>n,fun | n=>n⟩
theorem Tryz.Li:Go.Proofs.SlLaysF0.n6 Tryz.prog Tryz.Fh:={
 mixed:=by kernel_rfl
 f6:=⟨Tryz.f28.name,by decide,Tryz.func28.trans (congrArg some (by kernel_rfl))⟩
 f14:=⟨Tryz.f63.name,by decide,Tryz.func63.trans (congrArg some (by kernel_rfl))⟩
 f15:=Tryz.func64.trans (congrArg some (by kernel_rfl))
 f20:=⟨Tryz.f98.name,by decide,Tryz.func98.trans (congrArg some (by kernel_rfl))⟩
 f21:=⟨Tryz.f99.name,by decide,Tryz.func99.trans (congrArg some (by kernel_rfl))⟩
 f22:=⟨Tryz.f100.name,by decide,Tryz.func100.trans (congrArg some (by kernel_rfl))⟩
 f23:=⟨Tryz.f101.name,by decide,Tryz.func101.trans (congrArg some (by kernel_rfl))⟩
 f24:=⟨Tryz.f102.name,by decide,Tryz.func102.trans (congrArg some (by kernel_rfl))⟩
 f25:=⟨Tryz.f103.name,by decide,Tryz.func103.trans (congrArg some (by kernel_rfl))⟩
 f26:=⟨Tryz.f104.name,by decide,Tryz.func104.trans (congrArg some (by kernel_rfl))⟩
 f27:=⟨Tryz.f105.name,by decide,Tryz.func105.trans (congrArg some (by kernel_rfl))⟩
 f28:=Tryz.func106.trans (congrArg some (by kernel_rfl))
 f29:=Tryz.func107.trans (congrArg some (by kernel_rfl))
 f46:=⟨Tryz.f148.name,by decide,Tryz.func148.trans (congrArg some (by kernel_rfl))⟩
 f47:=Tryz.func149.trans (congrArg some (by kernel_rfl))
 f48:=Tryz.func150.trans (congrArg some (by kernel_rfl))
 f49:=⟨Tryz.f151.name,by decide,Tryz.func151.trans (congrArg some (by kernel_rfl))⟩
 f50:=⟨Tryz.f152.name,by decide,Tryz.func152.trans (congrArg some (by kernel_rfl))⟩
 f57:=⟨Tryz.f180.name,by decide,Tryz.func180.trans (congrArg some (by kernel_rfl))⟩
 t0:=Tryz.underlying0
 a0:=Tryz.isAgg0
 z0:=Tryz.sizeOf0
 v0:=Tryz.zeroValue0
 t3:=Tryz.underlying3
 a3:=Tryz.isAgg3
 z3:=Tryz.sizeOf3
 v3:=Tryz.zeroValue3
 t4:=Tryz.underlying4
 a4:=Tryz.isAgg4
 z4:=Tryz.sizeOf4
 v4:=Tryz.zeroValue4
 t5:=Tryz.underlying5
 a5:=Tryz.isAgg5
 z5:=Tryz.sizeOf5
 v5:=Tryz.zeroValue5
 t9:=Tryz.underlying9
 a9:=Tryz.isAgg9
 z9:=Tryz.sizeOf9
 v9:=Tryz.zeroValue9
 t22:=Tryz.underlying22
 a22:=Tryz.isAgg22
 z22:=Tryz.sizeOf22
 v22:=Tryz.zeroValue22
 t25:=Tryz.underlying58
 a25:=Tryz.isAgg58
 z25:=Tryz.sizeOf58
 v25:=Tryz.zeroValue58
 t39:=Tryz.underlying96
 a39:=Tryz.isAgg96
 z39:=Tryz.sizeOf96
 v39:=Tryz.zeroValue96
 t45:=Tryz.underlying125
 a45:=Tryz.isAgg125
 z45:=Tryz.sizeOf125
 v45:=Tryz.zeroValue125
 t46:=Tryz.underlying126
 a46:=Tryz.isAgg126
 z46:=Tryz.sizeOf126
 v46:=Tryz.zeroValue126
 t50:=Tryz.underlying34
 a50:=Tryz.isAgg34
 z50:=Tryz.sizeOf34
 v50:=Tryz.zeroValue34
 t53:=Tryz.underlying132
 a53:=Tryz.isAgg132
 z53:=Tryz.sizeOf132
 v53:=Tryz.zeroValue132
 t55:=Tryz.underlying134
 a55:=Tryz.isAgg134
 z55:=Tryz.sizeOf134
 v55:=Tryz.zeroValue134
 t66:=Tryz.underlying167
 a66:=Tryz.isAgg167
 z66:=Tryz.sizeOf167
 v66:=Tryz.zeroValue167
 t70:=Tryz.underlying171
 a70:=Tryz.isAgg171
 z70:=Tryz.sizeOf171
 v70:=Tryz.zeroValue171
 t76:=Tryz.underlying192
 a76:=Tryz.isAgg192
 z76:=Tryz.sizeOf192
 v76:=Tryz.zeroValue192
 t77:=Tryz.underlying193
 a77:=Tryz.isAgg193
 z77:=Tryz.sizeOf193
 v77:=Tryz.zeroValue193 }
def Tryz.E7:Go.Shelf.Ren:=⟨fun | 4=>62 | n=>n,fun | 22=>22 | 25=>42 | 3=>3 | 4=>4 | 9=>9 | 20=>20 | 0=>0 | n=>n,fun | n=>n⟩
theorem Tryz.Kw:Go.Proofs.Lays8.n4 Tryz.prog Tryz.E7:={
 mixed:=by kernel_rfl
 f4:=⟨Tryz.f62.name,by decide,Tryz.func62.trans (congrArg some (by kernel_rfl))⟩
 t0:=Tryz.underlying0
 a0:=Tryz.isAgg0
 z0:=Tryz.sizeOf0
 v0:=Tryz.zeroValue0
 t3:=Tryz.underlying3
 a3:=Tryz.isAgg3
 z3:=Tryz.sizeOf3
 v3:=Tryz.zeroValue3
 t4:=Tryz.underlying4
 a4:=Tryz.isAgg4
 z4:=Tryz.sizeOf4
 v4:=Tryz.zeroValue4
 t9:=Tryz.underlying9
 a9:=Tryz.isAgg9
 z9:=Tryz.sizeOf9
 v9:=Tryz.zeroValue9
 t20:=Tryz.underlying20
 a20:=Tryz.isAgg20
 z20:=Tryz.sizeOf20
 v20:=Tryz.zeroValue20
 t22:=Tryz.underlying22
 a22:=Tryz.isAgg22
 z22:=Tryz.sizeOf22
 v22:=Tryz.zeroValue22 }
end Go.Proofs
namespace Go.Proofs.SeatU
open Go.Dn Go.Md Go.Proofs Go.RowKit Go.Shelf Go.Lib Go.Sort
theorem Gz {G:Gh} {x:aa} {a:List Value} (h:ay G aj x a):∃ r:List Value,r.length=4∧a= .string (bs x.1)::r:=by
 have hlen:=ay.len h
 obtain⟨c1,r1,e1,h1,_⟩:=h
 have g1:c1=[.string (bs x.1)]:=h1
 subst g1;subst e1
 refine⟨r1, ?_,rfl⟩
 have:(Ty.size aj)=5:=rfl
 simp at hlen
 omega
theorem TV (s c:List UInt8) (p q:List Value) (hp:p.length=4) (hq:q.length=4) (w:World):
 Calls Tryz.prog 29 #[.agg (.string (bs s)::p).toArray,.agg (.string (bs c)::q).toArray] w fun e w'=>e= .returned (.int .i64 (Lib.compareBytes s c))∧∃ q os,w'=grow (w.drewN q) os:=by
 have mixed:Tryz.prog.follows .mixedOrders=true:=by kernel_rfl
 have aP:=Tryz.isAgg42;have zP:=Tryz.sizeOf42
 obtain⟨p1,p2,p3,p4,rfl⟩:∃ p1 p2 p3 p4,p=[p1,p2,p3,p4]:=by
  match p,hp with
  | [p1,p2,p3,p4],_=>exact⟨p1,p2,p3,p4,rfl⟩
 obtain⟨q1,q2,q3,q4,rfl⟩:∃ q1 q2 q3 q4,q=[q1,q2,q3,q4]:=by
  match q,hq with
  | [q1,q2,q3,q4],_=>exact⟨q1,q2,q3,q4,rfl⟩
 have hcmp:∀ w,Calls Tryz.prog 30 #[.string (bs s),.string (bs c)] w fun e w'=>e= .returned (.int .i64 (Lib.compareBytes s c))∧w'=w:=fun w=>by
  have:=Any.strings_Compare Tryz.Tj (bs s) (bs c) w
  change Calls Tryz.prog 30 _ _ _ at this
  simpa [bs] using this
 go_enter Tryz.func29,Tryz.ntmps29
 go_wp2_with (go_at_fn 30;refine (hcmp _).mono ?_;rintro e w' ⟨rfl,rfl⟩)
 all_goals (refine (hcmp _).mono ?_;rintro e w2 ⟨rfl,rfl⟩)
 all_goals go_wp2
 all_goals go_ret
 refine⟨rfl,0,_,by rw[alloc_eq_grow,alloc_eq_grow,grow_grow];rfl⟩
theorem YR:SWO (ltOf fun a b:aa=>Lib.compareBytes a.1 b.1):=by
 have key:∀ a b:aa,ltOf (fun a b:aa=>Lib.compareBytes a.1 b.1) a b=Op.bytesLess a.1 b.1:=fun a b=>by
  show decide (Lib.compareBytes a.1 b.1<0)=_
  rw[Bool.eq_iff_iff,decide_eq_true_iff,jx]
 refine⟨fun x=> ?_,fun x y z h1 h2=> ?_,fun x y z h1 h2=> ?_⟩
 ·rw[key];exact dD _
 ·rw[key] at *;exact cQ h1 h2
 ·rw[key] at*
  cases h:Op.bytesLess x.1 z.1 with
  | false=>rfl
  | true=>
   rcases gY x.1 y.1 with g | g | g
   ·rw[g] at h1;cases h1
   ·rw[g] at h;rw[h] at h2;cases h2
   ·have:=cQ g h;rw[this] at h2;cases h2
theorem U6:Lt Tryz.prog 29 aj (fun _=>true) (fun a b=>Lib.compareBytes a.1 b.1):=by
 intro G x y a b ha hb _ _ w
 obtain⟨p,hp,rfl⟩:=Gz ha
 obtain⟨q,hq,rfl⟩:=Gz hb
 exact TV _ _ p q hp hq w
noncomputable def mQ:ax:=Rx 42 aj 29 (fun _=>true) (fun a b=>Lib.compareBytes a.1 b.1)
theorem vu:aq Tryz.prog 28:=ak (fn:=Tryz.f28) (by kernel_rfl) rfl (by decide)
theorem vw:aD Tryz.prog 28 mQ:=W2 Tryz.Li (t:=aj) Tryz.isAgg42 Tryz.sizeOf42 YR U6 (enters_of Tryz.func29 (by kernel_rfl) rfl)
end Go.Proofs.SeatU
namespace Go.Proofs.SeatU
open Go.Dn Go.Md Go.Proofs Go.RowKit Go.Shelf Go.Lib Go.Sort
def vB:Ren:=⟨fun | 22=>56 | 29=>85 | 30=>86 | n=>n,fun | 24=>40 | 9=>70 | n=>n,fun n=>n⟩
theorem KH:tX Tryz.prog vB 5 64 (.agg #[.string ⟨#[]⟩,.string ⟨#[]⟩,.string ⟨#[]⟩,.int .i64 0,.int .i64 0]):={
 mixed:=by kernel_rfl
 f22:=⟨_,by decide,Tryz.func56.trans (congrArg some (by kernel_rfl:Tryz.f56={ Body2.n22 vB with name:= "slices.Insert[[]interchange/api.Content,interchange/api.Content]" }))⟩
 f29:=⟨Tryz.f85,by kernel_rfl,by kernel_rfl,by kernel_rfl,by kernel_rfl,by kernel_rfl⟩
 t0:=Tryz.underlying0
 a0:=Tryz.isAgg0
 z0:=Tryz.sizeOf0
 v0:=Tryz.zeroValue0
 t3:=Tryz.underlying3
 a3:=Tryz.isAgg3
 z3:=Tryz.sizeOf3
 v3:=Tryz.zeroValue3
 t4:=Tryz.underlying4
 a4:=Tryz.isAgg4
 z4:=Tryz.sizeOf4
 v4:=Tryz.zeroValue4
 z9:=Tryz.sizeOf70
 t24:=Tryz.underlying40
 a24:=Tryz.isAgg40
 z24:=Tryz.sizeOf40
 v24:=Tryz.zeroValue40
 i9:=by kernel_rfl
 k0:=by decide
 zc:=rfl }
def iH:ax:=⟨[.row 70 aL,.val tI,.val (.slice aL)],[.row 70 aL],fun x=>dZ x.1 x.2.1 x.2.2.1⟩
theorem nc:aq Tryz.prog 56:=ak (fn:=Tryz.f56) (by kernel_rfl) rfl (by decide)
theorem nj:aD Tryz.prog 56 iH:=KI (t:=aL) KH
def xN:Ren:=⟨fun | 22=>66 | 29=>109 | 30=>110 | n=>n,fun | 24=>22 | 9=>42 | n=>n,fun n=>n⟩
theorem Mu:tX Tryz.prog xN 5 72 (.agg #[.string ⟨#[]⟩,.string ⟨#[]⟩,.int .i64 0,.int .i64 0,.slice none 0 0]):={
 mixed:=by kernel_rfl
 f22:=⟨_,by decide,Tryz.func66.trans (congrArg some (by kernel_rfl:Tryz.f66={ Body2.n22 xN with name:= "slices.Insert[[]interchange/api.Parcel,interchange/api.Parcel]" }))⟩
 f29:=⟨Tryz.f109,by kernel_rfl,by kernel_rfl,by kernel_rfl,by kernel_rfl,by kernel_rfl⟩
 t0:=Tryz.underlying0
 a0:=Tryz.isAgg0
 z0:=Tryz.sizeOf0
 v0:=Tryz.zeroValue0
 t3:=Tryz.underlying3
 a3:=Tryz.isAgg3
 z3:=Tryz.sizeOf3
 v3:=Tryz.zeroValue3
 t4:=Tryz.underlying4
 a4:=Tryz.isAgg4
 z4:=Tryz.sizeOf4
 v4:=Tryz.zeroValue4
 z9:=Tryz.sizeOf42
 t24:=Tryz.underlying22
 a24:=Tryz.isAgg22
 z24:=Tryz.sizeOf22
 v24:=Tryz.zeroValue22
 i9:=by kernel_rfl
 k0:=by decide
 zc:=rfl }
def nP:ax:=⟨[.row 42 aj,.val tI,.val (.slice aj)],[.row 42 aj],fun x=>kJ x.1 x.2.1 x.2.2.1⟩
theorem xL:aq Tryz.prog 66:=ak (fn:=Tryz.f66) (by kernel_rfl) rfl (by decide)
theorem xY:aD Tryz.prog 66 nP:=KI (t:=aj) Mu
def xC:Ren:=⟨fun | 45=>25 | n=>n,fun | 22=>22 | 23=>42 | n=>n,fun n=>n⟩
theorem LU:Cp Tryz.prog xC 5 72 (.agg #[.string ⟨#[]⟩,.string ⟨#[]⟩,.int .i64 0,.int .i64 0,.slice none 0 0]):={
 mixed:=by kernel_rfl
 f45:=⟨_,by decide,Tryz.func25.trans (congrArg some (by kernel_rfl:Tryz.f25={ SlBodyN.n45 xC with name:= "slices.Delete[[]interchange/api.Parcel,interchange/api.Parcel]" }))⟩
 t0:=Tryz.underlying0
 a0:=Tryz.isAgg0
 z0:=Tryz.sizeOf0
 v0:=Tryz.zeroValue0
 t3:=Tryz.underlying3
 a3:=Tryz.isAgg3
 z3:=Tryz.sizeOf3
 v3:=Tryz.zeroValue3
 t4:=Tryz.underlying4
 a4:=Tryz.isAgg4
 z4:=Tryz.sizeOf4
 v4:=Tryz.zeroValue4
 t22:=Tryz.underlying22
 a22:=Tryz.isAgg22
 z22:=Tryz.sizeOf22
 v22:=Tryz.zeroValue22
 z23:=Tryz.sizeOf42
 v23:=Tryz.zeroValue42
 i23:=by kernel_rfl
 k0:=by decide
 zc:=rfl
 z1:=by decide }
def ja:ax:=⟨[.row 42 aj,.val tI,.val tI],[.row 42 aj],fun x=>dF x.1 x.2.1 x.2.2.1⟩
theorem nG:aq Tryz.prog 25:=ak (fn:=Tryz.f25) (by kernel_rfl) rfl (by decide)
theorem nH:aD Tryz.prog 25 ja:=TZ (t:=aj) LU
def qb:ax:=⟨[.row 42 aj,.val tI],[.row 42 aj],fun x=>mL x.1 x.2.1⟩
theorem yX:aq Tryz.prog 62:=ak (fn:=Tryz.f62) (by kernel_rfl) rfl (by decide)
theorem za:aD Tryz.prog 62 qb:=Xw Tryz.Kw (t:=aj) (i0:=Tryz.t42) (z:= .agg #[.string ⟨#[]⟩,.string ⟨#[]⟩,.int .i64 0,.int .i64 0,.slice none 0 0]) (by kernel_rfl) (by kernel_rfl) (by decide) (by kernel_rfl) (by kernel_rfl)
end Go.Proofs.SeatU
